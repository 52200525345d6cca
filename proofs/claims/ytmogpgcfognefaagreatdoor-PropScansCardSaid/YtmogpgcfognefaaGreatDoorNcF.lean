/- cd of this claim: F. -/
import Derived.Test.YtmogpgcfognefaaGreatDoorNcD
import Derived.Test.YtmogpgcfognefaaGreatDoorNcV4
import Derived.Lib.MapU
set_option linter.all false
namespace Go.Proofs.YtmogpgcfognefaaGreatDoor
open Go

def dX(f:(Int→Option Bool)):List Int→Nat→Option Int
 |[],i=>
  some (-1:Int)
 |e::tl,i=>
  (f e).bind fun r=>
  if r then
  (some (i:Int))
  else
  ((dX f tl) (i+1))

def iH(s:(List Int))(f:(Int→Option Bool)):Option Int:=
 dX f s 0

def cg(s:(List Int))(f:(Int→Option Bool)):Option Bool:=
 (iH s f).bind fun r=>
 some (decide ((0:Int)≤r))

def mK(k:Int):Option Bool:=
 some ((decide (k<(1:Int)))||(decide ((3:Int)<k)))

def iX(l:af):Option (Bool×af):=
 (cg ((({l with result:=l.n.Kinds}:af).n).Kinds) mK).bind fun r=>
 some ((((((!r)&&(decide ((0:Int)≤((({l with result:=l.n.Kinds}:af).n).Table))))&&(decide (((({l with result:=l.n.Kinds}:af).n).Table)<(4:Int))))&&(decide ((0:Int)<(((({l with result:=l.n.Kinds}:af).n).Kinds).length:Int))))&&(decide ((((({l with result:=l.n.Kinds}:af).n).Kinds).length:Int)≤(4:Int)))),({l with result:=l.n.Kinds}:af))

def mb(k:Int):Option Bool:=
 some ((decide (k<(0:Int)))||(decide ((4:Int)<k)))

def iq(l:af):Option (Bool×af):=
 (cg ((({l with result:=l.n.Kinds}:af).n).Kinds) mb).bind fun r=>
 some ((((((!r)&&(decide ((0:Int)≤((({l with result:=l.n.Kinds}:af).n).Table))))&&(decide (((({l with result:=l.n.Kinds}:af).n).Table)<(30:Int))))&&(decide ((0:Int)<(((({l with result:=l.n.Kinds}:af).n).Kinds).length:Int))))&&(decide ((((({l with result:=l.n.Kinds}:af).n).Kinds).length:Int)≤(16:Int)))),({l with result:=l.n.Kinds}:af))

def ju(s:List Int):Option (List Int):=
 some s

def jv(n:Int):Option (List Int):=
  if(decide ((0:Int)<(IntKind.i64.wrap (n-(IntKind.i64.wrap ((0:Int)-(0:Int)))))))then
  ((Rf (IntKind.i64.wrap (n-(IntKind.i64.wrap ((0:Int)-(0:Int)))))).bind fun _=>
  (xw (IntKind.i64.wrap (n-(IntKind.i64.wrap ((0:Int)-(0:Int))))) (0:Int)).bind fun mk=>
  (cG mk 0 (0:Int)).bind fun y=>
  ju y)
  else
  (ju ([]:List Int))

def iN(n:Int):Option (List Int):=
 if(decide (n<(0:Int)))then
 (none)
 else
 (jv n)

def fZ:List (List Int)→(List Int)→Option (List Int)
 |[],newslice=>
  some newslice
 |e1::tl1,newslice=>
  (mC newslice e1).bind fun newslice1=>
  (fZ tl1) newslice1

def f7(slices:(List (List Int))):List (List Int)→Int→Option (List Int)
 |[],size=>
  (iN size).bind fun r=>
  fZ slices r
 |e::tl,size=>
  if(decide ((IntKind.i64.wrap (size+(e.length:Int)))<(0:Int)))then
  (none)
  else
  ((f7 slices tl) (IntKind.i64.wrap (size+(e.length:Int))))

def fJ(slices:(List (List Int))):Option (List Int):=
 f7 slices slices (0:Int)

def mX(tag:Int):Option Int:=
  if((tag==(1:Int))||(tag==(2:Int)))then
  (some (0:Int))
  else
  (if((decide ((4:Int)≤tag))&&(decide (tag≤(7:Int))))then
  (some (1:Int))
  else
  (if((decide ((12:Int)≤tag))&&(decide (tag≤(23:Int))))then
  (some (2:Int))
  else
  (some (-1:Int))))

def gV(v1:aQ):Option aQ:=
 some v1

def lX(v2:aQ):Option aQ:=
 gV (aQ.mk (0:Int) v2.N v2.U v2.S)

def lW(v:aQ):Option aQ:=
 lX (aQ.mk v.Kind (0:Int) v.U v.S)

def lV(v3:aQ):Option aQ:=
 gV v3

def rt(v:aQ):Option aQ:=
  if(v.Kind==(1:Int))then
  (if((v.N !=(0:Int))&&(v.N !=(1:Int)))then
  (gV v)
  else
  (lW v))
  else
  (if(v.Kind==(2:Int))then
  (lW v)
  else
  (if(v.Kind==(0:Int))then
  (lX v)
  else
  (if(v.Kind==(3:Int))then
  (if(decide ((v.S.length:Int)≤(40:Int)))then
  (lV (aQ.mk (0:Int) v.N v.U ([])))
  else
  (lV v))
  else
  (if(v.Kind==(4:Int))then
  (gV (aQ.mk (0:Int) (0:Int) (0:Int) v.S))
  else
  (gV v)))))

def lE(v:aQ):Option Int:=
 (rt v).bind fun r=>
 if(!decide (r=(⟨(0:Int),(0:Int),(0:Int),[]⟩:aQ)))then
 (some (120:Int))
 else
 (some (0:Int))

def oZ(v:aQ):Option Bool:=
 (lE v).bind fun r=>
 some ((r==(0:Int))&&(v.Kind !=(4:Int)))

def pg(n:bH):Option Bool:=
  if(n.Tag==(1:Int))then
  ((oZ n.Value).bind fun r=>
  some (r&&(n.Col==(0:Int))))
  else
  (if(n.Tag==(2:Int))then
  (some (((decide (n.Value=(⟨(0:Int),(0:Int),(0:Int),[]⟩:aQ)))&&(decide ((0:Int)≤n.Col)))&&(decide (n.Col<(16:Int)))))
  else
  (some ((decide (n.Value=(⟨(0:Int),(0:Int),(0:Int),[]⟩:aQ)))&&(n.Col==(0:Int)))))

def jd(nx:Nat→(List Int)→(List Int)→Option ((List Int)×Bool))(i:Nat)(e1:bH)(all:List Int)(open1:List Int)(r:Int):List Int→Nat→Int→(List Int)→Option ((List Int)×Bool)
  |[],i1,first,at1=>
    if(!decide (at1=([e1.L,e1.R])))then
    (some ([],false))
    else
    ((mC all ([first])).bind fun all1=>
    (cG open1 0 (IntKind.i64.wrap ((open1.length:Int)-r))).bind fun y1=>
    (mC y1 ([(i:Int)])).bind fun open2=>
    nx (i+1) all1 open2)
  |e2::tl1,i1,first,at1=>
    (ea all e2).bind fun e3=>
    (ea at1 (i1:Int)).bind fun e4=>
    (some (at1.set (i1:Int).toNat e2)).bind fun ar=>
    (jd nx i e1 all open1 r tl1) (i1+1) (min first e3) ar

def ig:List bH→Nat→(List Int)→(List Int)→Option ((List Int)×Bool)
  |[],i,all,open1=>
    some (all,(((open1.length:Int)==(1:Int))&&(decide ((all.length:Int)≤(1000:Int)))))
  |e1::tl,i,all,open1=>
    (mX e1.Tag).bind fun r=>
    (if(!((decide (r<(0:Int)))||(decide ((open1.length:Int)<r))))then((pg e1).bind fun r1=>
    some (!r1))else some true).bind fun t=>
    if t then
    (some ([],false))
    else
    ((cG open1 (IntKind.i64.wrap ((open1.length:Int)-r)) (open1.length:Int)).bind fun y=>
    jd (ig tl) i e1 all open1 r y 0 (i:Int) ([(-1:Int),(-1:Int)]))

def pf(e:bT):Option ((List Int)×Bool):=
 ig e.Nodes 0 ([]:List Int) ([]:List Int)

def lC(e:bT):Option Int:=
 (pf e).bind fun r=>
 if(!r.2)then
 (some (200:Int))
 else
 (some (0:Int))

def di(i:Nat)(y:List Int):Nat→Nat→(List Int)→Int→Option (List Int)
  |0,i1,s1,k=>
    (cG s1 k (s1.length:Int)).bind fun y1=>
    (some (s1.take k.toNat++List.replicate y1.length (0:Int))).bind fun cl=>
    (cG cl 0 k).bind fun y2=>
    some y2
  |k2+1,i1,s1,k=>
    (zL s1 (i:Int) y.length (i1:Int)).bind fun e3=>
    (zL s1 (i:Int) y.length (IntKind.i64.wrap ((i1:Int)-(1:Int)))).bind fun e4=>
    if(e3 !=e4)then
    ((zL s1 (i:Int) y.length (i1:Int)).bind fun e5=>
    (ea s1 k).bind fun e6=>
    (some (s1.set k.toNat e5)).bind fun st=>
    (di i y k2) (i1+1) st (IntKind.i64.wrap (k+(1:Int))))
    else
    ((di i y k2) (i1+1) s1 k)

def dC(s:(List Int)):List Int→Nat→Option (List Int)
  |[],i=>
    some s
  |e::tl,i=>
    (ea s (IntKind.i64.wrap ((i:Int)-(1:Int)))).bind fun e1=>
    if(e==e1)then
    ((cG s (i:Int) (s.length:Int)).bind fun y=>
    di i y (y.length-1) 1 s (i:Int))
    else
    ((dC s tl) (i+1))

def gL(s:(List Int)):Option (List Int):=
 if(decide ((s.length:Int)<(2:Int)))then
 (some s)
 else
 (dC s (s.drop (1)) 1)

def jB:List bH→(List Int)→Option (List Int)
  |[],out=>
    (xG out).bind fun OR=>
    (gL OR).bind fun r1=>
    some r1
  |e1::tl,out=>
    if(e1.Tag==(2:Int))then
    ((mC out ([e1.Col])).bind fun out1=>
    (jB tl) out1)
    else
    ((jB tl) out)

def pZ(e:bT):Option (List Int):=
 (lC e).bind fun r=>
 if(r !=(0:Int))then
 (some ([]:List Int))
 else
 (jB e.Nodes ([]:List Int))

def cu(s:(List Int)):Option (List Int):=
 (mC ([]:List Int) s).bind fun x=>
 some x

def lk(stack:(List Int))(k:Int):Option ((List Int)×(List Int)):=
 (cG stack (IntKind.i64.wrap ((stack.length:Int)-k)) (stack.length:Int)).bind fun y=>
 (cu y).bind fun r=>
 (cG stack 0 (IntKind.i64.wrap ((stack.length:Int)-k))).bind fun y1=>
 some (r,y1)

def jb(bad:Int)(stack:List Int):Option (Int×Int):=
  if(bad !=(0:Int))then
  (some ((0:Int),bad))
  else
  ((ea stack (0:Int)).bind fun e1=>
  some (e1,(0:Int)))

def fb(do1:(bH→(List Int)→Option (Int×Int))):List bH→Int→(List Int)→Option (Int×Int)
  |[],bad1,stack1=>
    jb bad1 stack1
  |e2::tl,bad1,stack1=>
    (mX e2.Tag).bind fun r=>
    (lk stack1 r).bind fun r1=>
    (do1 e2 r1.1).bind fun r2=>
    if(r2.2 !=(0:Int))then
    (jb r2.2 r1.2)
    else
    ((mC r1.2 ([r2.1])).bind fun l2=>
    (fb do1 tl) bad1 l2)

def lc(e:bT)(do1:(bH→(List Int)→Option (Int×Int))):Option (Int×Int):=
 fb do1 e.Nodes (0:Int) ([]:List Int)

def nF(tag:Int):Option Bool:=
 some ((tag==(4:Int))||((decide ((12:Int)≤tag))&&(decide (tag≤(15:Int)))))

def je(kinds:(List Int))(n:bH):List Int→Int→Option (Int×Int)
  |[],own=>
    if(n.Tag==(1:Int))then
    (some (n.Value.Kind,(0:Int)))
    else
    (if(n.Tag==(2:Int))then
    ((ea kinds n.Col).bind fun e1=>
    some (e1,(0:Int)))
    else
    ((nF n.Tag).bind fun r=>
    if r then
    (if((own==(-1:Int))||((own !=(0:Int))&&(own !=(2:Int))))then
    (some ((0:Int),(201:Int)))
    else
    (some ((2:Int),(0:Int))))
    else
    (if(((n.Tag==(5:Int))||(n.Tag==(22:Int)))||(n.Tag==(23:Int)))then
    (if((own==(-1:Int))||((own !=(0:Int))&&(own !=(1:Int))))then
    (some ((0:Int),(201:Int)))
    else
    (some ((1:Int),(0:Int))))
    else
    (if((own==(-1:Int))||((own !=(0:Int))&&(own !=own)))then
    (some ((0:Int),(201:Int)))
    else
    (some ((1:Int),(0:Int)))))))
  |e::tl,own=>
    if((e==(0:Int))||(e==own))then
    ((je kinds n tl) own)
    else
    (if(own==(0:Int))then
    ((je kinds n tl) e)
    else
    ((je kinds n tl) (-1:Int)))

def gp(kinds:(List Int))(n:bH)(l:(List Int)):Option (Int×Int):=
 je kinds n l (0:Int)

def jA(e:bT)(kinds:(List Int)):List Int→Option (Int×Int)
 |[]=>
  (lc e (gp kinds)).bind fun r2=>
  some (r2.1,r2.2)
 |e2::tl1=>
  if(decide ((kinds.length:Int)≤e2))then
  (some ((0:Int),(2:Int)))
  else
  ((jA e kinds tl1))

def mi(e:bT)(kinds:(List Int)):List Int→Option (Int×Int)
 |[]=>
  (pZ e).bind fun r1=>
  jA e kinds r1
 |e1::tl=>
  if((decide (e1<(0:Int)))||(decide ((3:Int)<e1)))then
  (some ((0:Int),(2:Int)))
  else
  ((mi e kinds tl))

def lO(e:bT)(kinds:(List Int)):Option (Int×Int):=
 (lC e).bind fun r=>
 if(r !=(0:Int))then
 (some ((0:Int),r))
 else
 (mi e kinds kinds)

def lu(e:bT)(kinds:(List Int)):Option Bool:=
 (lO e kinds).bind fun r=>
 some ((r.2==(0:Int))&&((r.1==(0:Int))||(r.1==(1:Int))))

def iY(l:af):Option (Bool×af):=
 (fJ ([l.a_,l.b])).bind fun r=>
 (lu ((({l with result:=r}:af).n).Cond) (({l with result:=r}:af).result)).bind fun r1=>
 some (r1,({l with result:=r}:af))

def gS(l:af):Option (Bool×af):=
 (lu ((({l with result:=l.a_}:af).n).Cond) (({l with result:=l.a_}:af).a_)).bind fun r=>
 some (r,({l with result:=l.a_}:af))

def dF(nx1:Bool→af→Option (Bool×af))(ob1:af)(ok1:Bool)(k:Int):Option (Bool×af):=
 (mC ob1.result ([k])).bind fun l7=>
 nx1 ok1 ({ob1 with result:=l7}:af)

def fQ(nx1:Bool→af→Option (Bool×af))(e1:jn)(ok:Bool)(ob1:af)(r:Int×Int)(x:Bool):Option (Bool×af):=
 if x then
 (dF nx1 ob1 (((ok&&(r.2==(0:Int)))&&(decide ((1:Int)<e1.Tag)))&&(decide (e1.Tag≤(5:Int)))) r.1)
 else
 (dF nx1 ob1 (((ok&&(r.2==(0:Int)))&&(decide ((1:Int)<e1.Tag)))&&(decide (e1.Tag≤(5:Int)))) (2:Int))

def cn:List jn→Bool→af→Option (Bool×af)
  |[],ok,ob1=>
    some (ok,ob1)
  |e1::tl1,ok,ob1=>
    if(e1.Tag==(1:Int))then
    (dF (cn tl1) ob1 (ok&&((e1.Arg.Nodes.length:Int)==(0:Int))) (2:Int))
    else
    ((lO e1.Arg ob1.a_).bind fun r=>
    if(e1.Tag==(3:Int))then
    (dF (cn tl1) ob1 ((((ok&&(r.2==(0:Int)))&&(decide ((1:Int)<e1.Tag)))&&(decide (e1.Tag≤(5:Int))))&&((r.1==(2:Int))||(r.1==(0:Int)))) (2:Int))
    else
    (if(e1.Tag==(4:Int))then
    (fQ (cn tl1) e1 ok ob1 r (e1.Tag==(4:Int)))
    else
    (fQ (cn tl1) e1 ok ob1 r (e1.Tag==(5:Int)))))

def eX(l:af):List Int→af→Option (Bool×af)
  |[],ob=>
    cn l.n.Aggs (((decide ((l.n.Keys.length:Int)≤(3:Int)))&&(decide ((l.n.Aggs.length:Int)≤(12:Int))))&&(decide ((0:Int)<(IntKind.i64.wrap ((l.n.Keys.length:Int)+(l.n.Aggs.length:Int)))))) ob
  |e::tl,ob=>
    if((decide (e<(0:Int)))||(decide ((ob.a_.length:Int)≤e)))then
    (some (false,ob))
    else
    ((ea ob.a_ e).bind fun e2=>
    (mC ob.result ([e2])).bind fun l9=>
    (eX l tl) ({ob with result:=l9}:af))

def eS(l:af):Option (Bool×af):=
 eX l l.n.Keys ({l with result:=([]:List Int)}:af)

def e8:List jn→Nat→af→Option (Bool×af)
  |[],i1,ob=>
    some (true,ob)
  |e::tl,i1,ob=>
    if(e.Tag==(3:Int))then
    ((ea ob.result (IntKind.i64.wrap ((ob.n.Keys.length:Int)+(i1:Int)))).bind fun e1=>
    (some (ob.result.set (IntKind.i64.wrap ((ob.n.Keys.length:Int)+(i1:Int))).toNat (4:Int))).bind fun st=>
    (e8 tl) (i1+1) ({ob with result:=st}:af))
    else
    ((e8 tl) (i1+1) ob)

def gv(l:af):Option (Bool×af):=
 (eS l).bind fun r=>
 if(!r.1)then
 (some (false,r.2))
 else
 (e8 r.2.n.Aggs 0 r.2)

def jx(nx1:Nat→Bool→af→Option (Bool×af))(i1:Nat)(e2:jn)(ok1:Bool)(ob:af)(e3:Int)(x1:Bool):Option (Bool×af):=
 if x1 then
 (nx1 (i1+1) ((ok1&&((e2.Arg.Nodes.length:Int)==(0:Int)))&&(e3 !=(4:Int))) ob)
 else
 (nx1 (i1+1) false ob)

def hJ(l:af)(nx1:Nat→Bool→af→Option (Bool×af))(i1:Nat)(e2:jn)(ok1:Bool)(ob:af)(e3:Int)(x:Bool):Option (Bool×af):=
  if x then
  (nx1 (i1+1) ((ok1&&((e2.Arg.Nodes.length:Int)==(0:Int)))&&(e3==(2:Int))) ob)
  else
  (if(e2.Tag==(3:Int))then
  ((ea ob.result (IntKind.i64.wrap ((l.n.Keys.length:Int)+(i1:Int)))).bind fun e4=>
  (some (ob.result.set (IntKind.i64.wrap ((l.n.Keys.length:Int)+(i1:Int))).toNat (2:Int))).bind fun st=>
  nx1 (i1+1) ((ok1&&((e2.Arg.Nodes.length:Int)==(0:Int)))&&(e3==(4:Int))) ({ob with result:=st}:af))
  else
  (if(e2.Tag==(4:Int))then
  (jx nx1 i1 e2 ok1 ob e3 (e2.Tag==(4:Int)))
  else
  (jx nx1 i1 e2 ok1 ob e3 (e2.Tag==(5:Int)))))

def dm(l:af):List jn→Nat→Bool→af→Option (Bool×af)
 |[],i1,ok1,ob=>
  some (ok1,ob)
 |e2::tl1,i1,ok1,ob=>
  (ea ob.a_ (IntKind.i64.wrap ((l.n.Keys.length:Int)+(i1:Int)))).bind fun e3=>
  if(e2.Tag==(1:Int))then
  (hJ l (dm l tl1) i1 e2 ok1 ob e3 (e2.Tag==(1:Int)))
  else
  (hJ l (dm l tl1) i1 e2 ok1 ob e3 (e2.Tag==(2:Int)))

def hG(l:af)(r:(List Int)):List Int→Nat→Bool→Option (Bool×af)
  |[],i,ok=>
    dm l l.n.Aggs 0 ok ({l with result:=r}:af)
  |e1::tl,i,ok=>
    (if(ok&&(e1==(i:Int)))then((ea l.a_ (i:Int)).bind fun e5=>
    some (e5 !=(4:Int)))else some false).bind fun t=>
    (hG l r tl) (i+1) t

def ir(l:af):Option (Bool×af):=
  (ea l.nodes l.n.A).bind fun e=>
  if(!((((e.Op==(9:Int))&&(decide ((l.n.Keys.length:Int)≤(3:Int))))&&(decide ((l.n.Aggs.length:Int)≤(12:Int))))&&((IntKind.i64.wrap ((l.n.Keys.length:Int)+(l.n.Aggs.length:Int)))==(l.a_.length:Int))))then
  (some (false,l))
  else
  ((cu l.a_).bind fun r=>
  hG l r l.n.Keys 0 ((((e.Op==(9:Int))&&(decide ((l.n.Keys.length:Int)≤(3:Int))))&&(decide ((l.n.Aggs.length:Int)≤(12:Int))))&&((IntKind.i64.wrap ((l.n.Keys.length:Int)+(l.n.Aggs.length:Int)))==(l.a_.length:Int))))

def gi:List bT→af→Option (Bool×af)
  |[],ob=>
    some (decide ((0:Int)<(ob.result.length:Int)),ob)
  |e::tl,ob=>
    (lO e ob.a_).bind fun r=>
    if(r.2 !=(0:Int))then
    (some (false,ob))
    else
    ((mC ob.result ([r.1])).bind fun l4=>
    (gi tl) ({ob with result:=l4}:af))

def iB(l:af):Option (Bool×af):=
 gi l.n.Items ({l with result:=([]:List Int)}:af)

def jL(l:af):Option (Bool×af):=
 some (true,({l with result:=l.a_}:af))

def fP(nx:Nat→af→Option (Bool×af))(i:Nat)(ob:af)(e1:Int)(k:Int):Option (Bool×af):=
  if((e1 !=(0:Int))&&(e1 !=k))then
  (some (false,ob))
  else
  ((mC ob.result ([k])).bind fun l4=>
  nx (i+1) ({ob with result:=l4}:af))

def ef:List Int→Nat→af→Option (Bool×af)
 |[],i,ob=>
  some (true,ob)
 |e::tl,i,ob=>
  (ea ob.b (i:Int)).bind fun e1=>
  if(e==(0:Int))then
  (fP (ef tl) i ob e1 e1)
  else
  (fP (ef tl) i ob e1 e)

def ip(l:af):Option (Bool×af):=
 if((l.a_.length:Int) !=(l.b.length:Int))then
 (some (false,l))
 else
 (ef l.a_ 0 ({l with result:=([]:List Int)}:af))

def cU(f:(kj→Option Bool)):List kj→Nat→Option Int
 |[],i=>
  some (-1:Int)
 |e::tl,i=>
  (f e).bind fun r=>
  if r then
  (some (i:Int))
  else
  ((cU f tl) (i+1))

def fk(s:(List kj))(f:(kj→Option Bool)):Option Int:=
 cU f s 0

def dx(s:(List kj))(f:(kj→Option Bool)):Option Bool:=
 (fk s f).bind fun r=>
 some (decide ((0:Int)≤r))

def kK(l:af)(o:kj):Option Bool:=
 some ((decide (o.Col<(0:Int)))||(decide ((l.a_.length:Int)≤o.Col)))

def iW(l:af):Option (Bool×af):=
 (dx ((({l with result:=l.a_}:af).n).Order) (kK ({l with result:=l.a_}:af))).bind fun r=>
 some (((((!r)&&(decide ((((({l with result:=l.a_}:af).n).Order).length:Int)≤(3:Int))))&&(decide ((-1:Int)≤((({l with result:=l.a_}:af).n).Limit))))&&(decide (((({l with result:=l.a_}:af).n).Limit)≤(2147483647:Int)))),({l with result:=l.a_}:af))

def pT:Option (List (Int×(af→Unit→Option (Bool×af)))):=
 some (gm (gm (gm (gm (gm (gm (gm (gm (gm (gm (gm ([]:List (Int×(af→Unit→Option (Bool×af)))) (1:Int) (fun(mc:af) (mx:Unit)=>iX mc)) (9:Int) (fun(mc:af) (mx:Unit)=>iq mc)) (2:Int) (fun(mc:af) (mx:Unit)=>iY mc)) (3:Int) (fun(mc:af) (mx:Unit)=>gS mc)) (4:Int) (fun(mc:af) (mx:Unit)=>eS mc)) (10:Int) (fun(mc:af) (mx:Unit)=>gv mc)) (11:Int) (fun(mc:af) (mx:Unit)=>ir mc)) (5:Int) (fun(mc:af) (mx:Unit)=>iB mc)) (6:Int) (fun(mc:af) (mx:Unit)=>jL mc)) (7:Int) (fun(mc:af) (mx:Unit)=>ip mc)) (8:Int) (fun(mc:af) (mx:Unit)=>iW mc))

def f8(x2:Bool):Option Int:=
 if x2 then
 (some (1:Int))
 else
 (some (-1:Int))

def m6(op:Int)(x1:Bool):Option Int:=
  if x1 then
  (some (2:Int))
  else
  (if(op==(3:Int))then
  (f8 (op==(3:Int)))
  else
  (if(op==(4:Int))then
  (f8 (op==(4:Int)))
  else
  (if(op==(5:Int))then
  (f8 (op==(5:Int)))
  else
  (if(op==(6:Int))then
  (f8 (op==(6:Int)))
  else
  (if(op==(8:Int))then
  (f8 (op==(8:Int)))
  else
  (if(op==(10:Int))then
  (f8 (op==(10:Int)))
  else
  (f8 (op==(11:Int)))))))))

def m7(op:Int)(x:Bool):Option Int:=
  if x then
  (some (0:Int))
  else
  (if(op==(2:Int))then
  (m6 op (op==(2:Int)))
  else
  (m6 op (op==(7:Int))))

def qv(op:Int):Option Int:=
 if(op==(1:Int))then
 (m7 op (op==(1:Int)))
 else
 (m7 op (op==(9:Int)))

def qw(n:aZ):Option Bool:=
 some ((((((((n.Op==(1:Int))||(n.Op==(9:Int)))||((n.Table==(0:Int))&&((n.Kinds.length:Int)==(0:Int))))&&((n.Op==(2:Int))||(!n.Left)))&&(((n.Op==(2:Int))||(n.Op==(3:Int)))||((n.Cond.Nodes.length:Int)==(0:Int))))&&((((n.Op==(4:Int))||(n.Op==(10:Int)))||(n.Op==(11:Int)))||((IntKind.i64.wrap ((n.Keys.length:Int)+(n.Aggs.length:Int)))==(0:Int))))&&((n.Op==(5:Int))||((n.Items.length:Int)==(0:Int))))&&((n.Op==(8:Int))||(((n.Order.length:Int)==(0:Int))&&(n.Limit==(0:Int)))))

def eZ(v:Int):List Int→Nat→Option Int
 |[],i=>
  some (-1:Int)
 |e::tl,i=>
  if(v==e)then
  (some (i:Int))
  else
  ((eZ v tl) (i+1))

def iy(s:(List Int))(v:Int):Option Int:=
 eZ v s 0

def cN(s:(List Int))(v:Int):Option Bool:=
 (iy s v).bind fun r=>
 some (decide ((0:Int)≤r))

def b6(l:af)(i:Int)(ask:(af→Unit→Option (Bool×af)))(e:aZ)(r:Int):List Int→Nat→(List Int)→(List Int)→Option (Bool×af)
  |[],i5,a_,b3=>
    if(((e.Op==(8:Int))||(e.Op==(10:Int)))&&(i !=(IntKind.i64.wrap (((({({({({({l with n:=e}:af)with a_:=[]}:af)with b:=[]}:af)with a_:=a_}:af)with b:=b3}:af).nodes).length:Int)-(1:Int)))))then
    (some (false,({({({({({l with n:=e}:af)with a_:=[]}:af)with b:=[]}:af)with a_:=a_}:af)with b:=b3}:af)))
    else
    ((ask ({({({({({l with n:=e}:af)with a_:=[]}:af)with b:=[]}:af)with a_:=a_}:af)with b:=b3}:af) ()).bind fun r2=>
    if((!r2.1)||(decide ((16:Int)<(r2.2.result.length:Int))))then
    (some (false,r2.2))
    else
    ((mC r2.2.kinds ([r2.2.result])).bind fun l1=>
    (cG r2.2.open_ 0 (IntKind.i64.wrap ((r2.2.open_.length:Int)-r))).bind fun y2=>
    (mC y2 ([i])).bind fun l2=>
    some (true,({({r2.2 with kinds:=l1}:af)with open_:=l2}:af))))
  |e1::tl,i5,a_,b3=>
    (ea l.kinds e1).bind fun e2=>
    (if(e.Op !=(11:Int))then((cN e2 (4:Int)).bind fun r3=>
    some r3)else some false).bind fun t1=>
    if t1 then
    (some (false,({({({({({l with n:=e}:af)with a_:=[]}:af)with b:=[]}:af)with a_:=a_}:af)with b:=b3}:af)))
    else
    (if((i5:Int)==(0:Int))then
    ((b6 l i ask e r tl) (i5+1) (({({({({({({l with n:=e}:af)with a_:=[]}:af)with b:=[]}:af)with a_:=a_}:af)with b:=b3}:af)with a_:=e2}:af).a_) (({({({({({({l with n:=e}:af)with a_:=[]}:af)with b:=[]}:af)with a_:=a_}:af)with b:=b3}:af)with a_:=e2}:af).b))
    else
    ((b6 l i ask e r tl) (i5+1) (({({({({({({l with n:=e}:af)with a_:=[]}:af)with b:=[]}:af)with a_:=a_}:af)with b:=b3}:af)with b:=e2}:af).a_) (({({({({({({l with n:=e}:af)with a_:=[]}:af)with b:=[]}:af)with a_:=a_}:af)with b:=b3}:af)with b:=e2}:af).b)))

def jK(l:af)(i:Int)(ask:(af→Unit→Option (Bool×af))):Option (Bool×af):=
  (ea l.nodes i).bind fun e=>
  (qv e.Op).bind fun r=>
  (if(!((decide (r<(0:Int)))||(decide ((l.open_.length:Int)<r))))then((qw e).bind fun r1=>
  some (!r1))else some true).bind fun t=>
  if t then
  (some (false,l))
  else
  ((cG l.open_ (IntKind.i64.wrap ((l.open_.length:Int)-r)) (l.open_.length:Int)).bind fun y=>
  if(!decide ((p7 ([(-1:Int),(-1:Int)]) y)=([e.A,e.B])))then
  (some (false,l))
  else
  ((cG l.open_ (IntKind.i64.wrap ((l.open_.length:Int)-r)) (l.open_.length:Int)).bind fun y1=>
  b6 l i ask e r y1 0 (({({({l with n:=e}:af)with a_:=[]}:af)with b:=[]}:af).a_) (({({({l with n:=e}:af)with a_:=[]}:af)with b:=[]}:af).b)))

def jQ:List (List Int)→(List (List Int))→Option ((List (List Int))×Int×Int)
 |[],out=>
  some (out,(0:Int),(0:Int))
 |e::tl,out=>
  (cu e).bind fun r1=>
  (mC out ([r1])).bind fun out1=>
  (jQ tl) out1

def jR(ob:af)(wrong1:Int):Option ((List (List Int))×Int×Int):=
 if(decide ((0:Int)≤wrong1))then
 (some ([],wrong1,(291:Int)))
 else
 (jQ ob.kinds ([]:List (List Int)))

def la(nodes:(List aZ))(wrong:Int)(ob:af):Option ((List (List Int))×Int×Int):=
 if((decide (wrong<(0:Int)))&&((ob.open_.length:Int) !=(1:Int)))then
 (jR ob (IntKind.i64.wrap ((nodes.length:Int)-(1:Int))))
 else
 (jR ob wrong)

def jP(nodes:(List aZ))(r:(List (Int×(af→Unit→Option (Bool×af))))):List aZ→Nat→Int→af→Option ((List (List Int))×Int×Int)
 |[],i1,wrong2,ob1=>
  la nodes wrong2 ob1
 |e1::tl1,i1,wrong2,ob1=>
  (jK ob1 (i1:Int) ((oW r e1.Op).getD (fun _ _=>none))).bind fun r2=>
  if(!r2.1)then
  (la nodes (i1:Int) r2.2)
  else
  ((jP nodes r tl1) (i1+1) wrong2 r2.2)

def oD(nodes:(List aZ)):Option ((List (List Int))×Int×Int):=
  if((decide ((nodes.length:Int)<(1:Int)))||(decide ((60:Int)<(nodes.length:Int))))then
  (some ([],(0:Int),(291:Int)))
  else
  ((pT).bind fun r=>
  jP nodes r nodes 0 (-1:Int) (⟨nodes,[],[],(⟨(0:Int),(0:Int),(0:Int),(0:Int),[],false,(⟨[]⟩:bT),[],[],[],[],(0:Int)⟩:aZ),[],[],[]⟩:af))

def pX(c:Int):Option Bool:=
 some ((decide ((97:Int)≤c))&&(decide (c≤(122:Int))))

def dB(v:gQ):List gQ→Nat→Option Int
 |[],i=>
  some (-1:Int)
 |e::tl,i=>
  if(v==e)then
  (some (i:Int))
  else
  ((dB v tl) (i+1))

def gW(s:(List gQ))(v:gQ):Option Int:=
 dB v s 0

def gh(s:(List gQ))(v:gQ):Option Bool:=
 (gW s v).bind fun r=>
 some (decide ((0:Int)≤r))

def qB(s:gQ):Option Bool:=
 (gh O7 s).bind fun r=>
 some r

def gA(s:gQ):Option gQ:=if s.length<35184372088832 then some (Lib.toUpperD s)else none

def sA(c:Int):Option Bool:=
 some ((decide ((48:Int)≤c))&&(decide (c≤(57:Int))))

def lb:List (Int×Int)→Option Bool
  |[]=>
    some true
  |e::tl=>
    (sA e.2).bind fun r3=>
    (if(!r3)then((pX e.2).bind fun r4=>
    some (!r4))else some false).bind fun t2=>
    if(t2&&(e.2 !=(95:Int)))then
    (some false)
    else
    ((lb tl))

def mP(s:gQ):Option Bool:=
  (if(!((s==([]))||(decide ((16:Int)<(s.length:Int)))))then((Bx s (0:Int)).bind fun b=>
  (pX (IntKind.i32.wrap b)).bind fun r=>
  some (!r))else some true).bind fun t=>
  (if(!t)then((gA s).bind fun r1=>
  (qB r1).bind fun r2=>
  some r2)else some true).bind fun t1=>
  if t1 then
  (some false)
  else
  (lb (CE s))

def b8(f:(aU→Option Bool)):List aU→Nat→Option Int
 |[],i=>
  some (-1:Int)
 |e::tl,i=>
  (f e).bind fun r=>
  if r then
  (some (i:Int))
  else
  ((b8 f tl) (i+1))

def ed(s:(List aU))(f:(aU→Option Bool)):Option Int:=
 b8 f s 0

def dD(of:(aU→Option gQ))(name:gQ)(p:aU):Option Bool:=
 (of p).bind fun r=>
 some (r==name)

def gx(l:(List aU))(of:(aU→Option gQ))(name:gQ):Option (Int×Bool):=
 (ed l (dD of name)).bind fun r=>
 some ((max r (0:Int)),decide ((0:Int)≤r))

def eh(l:(List aU))(of:(aU→Option gQ)):List aU→Nat→Option Bool
  |[],i=>
    some true
  |e::tl,i=>
    (of e).bind fun r=>
    (gx l of r).bind fun r1=>
    (if(!(r1.1 !=(i:Int)))then((of e).bind fun r2=>
    (mP r2).bind fun r3=>
    some (!r3))else some true).bind fun t=>
    if t then
    (some false)
    else
    ((eh l of tl) (i+1))

def jh(l:(List aU))(of:(aU→Option gQ)):Option Bool:=
 eh l of l 0

def dI(c:aU):Option gQ:=
 some c.Name

def gE(kind:Int):Nat→Nat→Option gQ
 |0,i=>
  some ([])
 |k1+1,i=>
  (ea Nk (i:Int)).bind fun e1=>
  if(e1.kind==kind)then
  (some e1.word)
  else
  ((gE kind k1) (i+1))

def nX(kind:Int):Option gQ:=
 gE kind 3 0

def dW(t:bj):List Int→Nat→Bool→Option Int
  |[],i1,ok1=>
    if(!ok1)then
    (some (211:Int))
    else
    (some (0:Int))
  |e1::tl1,i1,ok1=>
    (if((ok1&&(decide ((0:Int)≤e1)))&&(decide (e1<(t.Columns.length:Int))))then((if(!((i1:Int)==(0:Int)))then((ea t.Keys (IntKind.i64.wrap ((i1:Int)-(1:Int)))).bind fun e2=>
    some (decide (e2<e1)))else some true).bind fun t3=>
    some t3)else some false).bind fun t2=>
    (dW t tl1) (i1+1) t2

def eJ(t:bj):List aU→Bool→Option Int
  |[],ok=>
    dW t t.Keys 0 ok
  |e::tl,ok=>
    (if ok then((nX e.Kind).bind fun r2=>
    some (!(r2==([]))))else some false).bind fun t4=>
    (eJ t tl) t4

def jE(t:bj):Option Int:=
  (mP t.Name).bind fun r=>
  (if((r&&(decide ((1:Int)≤(t.Columns.length:Int))))&&(decide ((t.Columns.length:Int)≤(4:Int))))then((jh t.Columns dI).bind fun r1=>
  some r1)else some false).bind fun t1=>
  eJ t t.Columns t1

def iu(t:bj):Option Bool:=
 (jE t).bind fun r=>
 some (r !=(0:Int))

def bI(f:(bj→Option Bool)):List bj→Nat→Option Int
 |[],i=>
  some (-1:Int)
 |e::tl,i=>
  (f e).bind fun r=>
  if r then
  (some (i:Int))
  else
  ((bI f tl) (i+1))

def cQ(s:(List bj))(f:(bj→Option Bool)):Option Int:=
 bI f s 0

def d8(s:(List bj))(f:(bj→Option Bool)):Option Bool:=
 (cQ s f).bind fun r=>
 some (decide ((0:Int)≤r))

def dM(of:(bj→Option gQ))(name:gQ)(p:bj):Option Bool:=
 (of p).bind fun r=>
 some (r==name)

def gO(l:(List bj))(of:(bj→Option gQ))(name:gQ):Option (Int×Bool):=
 (cQ l (dM of name)).bind fun r=>
 some ((max r (0:Int)),decide ((0:Int)≤r))

def ez(l:(List bj))(of:(bj→Option gQ)):List bj→Nat→Option Bool
  |[],i=>
    some true
  |e::tl,i=>
    (of e).bind fun r=>
    (gO l of r).bind fun r1=>
    (if(!(r1.1 !=(i:Int)))then((of e).bind fun r2=>
    (mP r2).bind fun r3=>
    some (!r3))else some true).bind fun t=>
    if t then
    (some false)
    else
    ((ez l of tl) (i+1))

def jD(l:(List bj))(of:(bj→Option gQ)):Option Bool:=
 ez l of l 0

def d3(t:bj):Option gQ:=
 some t.Name

def jW(c:aT):Option Int:=
  (if(!(decide ((4:Int)<(c.Tables.length:Int))))then((d8 c.Tables iu).bind fun r=>
  some r)else some true).bind fun t=>
  (if(!t)then((jD c.Tables d3).bind fun r1=>
  some (!r1))else some true).bind fun t1=>
  if t1 then
  (some (210:Int))
  else
  (some (0:Int))

def dQ(root:(List Int))(c:Int):Option Bool:=
  (if(!((decide (c<(0:Int)))||(decide ((root.length:Int)≤c))))then((ea root c).bind fun e=>
  some (e==(4:Int)))else some true).bind fun t=>
  some t

def cD(f:(aZ→Option Bool)):List aZ→Nat→Option Int
 |[],i=>
  some (-1:Int)
 |e::tl,i=>
  (f e).bind fun r=>
  if r then
  (some (i:Int))
  else
  ((cD f tl) (i+1))

def du(s:(List aZ))(f:(aZ→Option Bool)):Option Int:=
 cD f s 0

def de(s:(List aZ))(f:(aZ→Option Bool)):Option Bool:=
 (du s f).bind fun r=>
 some (decide ((0:Int)≤r))

def b7(s2:(List aU))(eq:(Int→aU→Option Bool)):List Int→Nat→Option Bool
 |[],i=>
  some true
 |e::tl,i=>
  (ea s2 (i:Int)).bind fun e1=>
  (eq e e1).bind fun r=>
  if(!r)then
  (some false)
  else
  ((b7 s2 eq tl) (i+1))

def cF(s1:(List Int))(s2:(List aU))(eq:(Int→aU→Option Bool)):Option Bool:=
 if((s1.length:Int) !=(s2.length:Int))then
 (some false)
 else
 (b7 s2 eq s1 0)

def il(k:Int)(c:aU):Option Bool:=
 some (k==c.Kind)

def dP(f:dc)(p:(Option bN))(n:aZ):Option Bool:=
  if(n.Op !=(1:Int))then
  (some false)
  else
  ((if(!(f.At !=(1:Int)))then((p).bind fun p1=>
  some (decide ((p1.c.Tables.length:Int)≤n.Table)))else some true).bind fun t=>
  if t then
  (some true)
  else
  ((p).bind fun p2=>
  (ea p2.c.Tables n.Table).bind fun e=>
  (cF n.Kinds e.Columns il).bind fun r=>
  some (!r)))

def kb(p:(Option bN))(f:dc)(root:(List Int)):Option Bool:=
  if((((((f.At !=(1:Int))&&(f.At !=(2:Int)))||(decide (f.Way<(1:Int))))||(decide ((4:Int)<f.Way)))||((f.Way==(1:Int)) !=(decide ((0:Int)<(f.Cols.length:Int)))))||(decide ((16:Int)<(f.Cols.length:Int))))then
  (some false)
  else
  ((cg f.Cols (dQ root)).bind fun r=>
  if r then
  (some false)
  else
  ((de f.Nodes (dP f p)).bind fun r1=>
  some (!r1)))

def gT{Sg:Type}(from1:Int)(yld:(Int×Int)→Sg→Option (Bool×Sg))(nx:Nat→Sg→Option Sg)(i:Nat):List aZ→Nat→Sg→Option Sg
  |[],i1,s2=>
    nx (i+1) s2
  |e4::tl1,i1,s2=>
    if((e4.Op==(9:Int))&&(e4.Table==from1))then
    ((yld ((i:Int),(i1:Int)) s2).bind fun r=>
    if(!r.1)then
    (some r.2)
    else
    ((gT from1 yld nx i tl1) (i1+1) r.2))
    else
    ((gT from1 yld nx i tl1) (i1+1) s2)

def gU{Sg:Type}(from1:Int)(yld:(Int×Int)→Sg→Option (Bool×Sg)):List dc→Nat→Sg→Option Sg
 |[],i,s1=>
  some s1
 |e2::tl,i,s1=>
  gT from1 yld (gU from1 yld tl) i e2.Nodes 0 s1

def pz{Sg:Type}(p:eC)(from1:Int)(yld:(Int×Int)→Sg→Option (Bool×Sg))(s:Sg):Option Sg:=
 gU from1 yld p.Frags 0 s

def nq(p:eC)(from1:Int):Option (It (Int×Int)):=
 some (fun _=>pz p from1)

def d9(s2:(List Int)):List Int→Nat→Option Bool
 |[],i=>
  some true
 |e::tl,i=>
  (ea s2 (i:Int)).bind fun e1=>
  if(e !=e1)then
  (some false)
  else
  ((d9 s2 tl) (i+1))

def ee(s1:(List Int))(s2:(List Int)):Option Bool:=
 if((s1.length:Int) !=(s2.length:Int))then
 (some false)
 else
 (d9 s2 s1 0)

def cB(p:(Option bN))(frag:Int):Option (List Int):=
 (p).bind fun p1=>
 (ea p1.kinds frag).bind fun e=>
 (ea e (IntKind.i64.wrap ((e.length:Int)-(1:Int)))).bind fun e1=>
 some e1

def dU(p:(Option bN))(x:Int×Int)(one:Bool)(many:Int):Option (Bool×Int):=
 (p).bind fun p3=>
 (ea p3.Plan.Frags x.1).bind fun e2=>
 some ((e2.At==(2:Int)),(IntKind.i64.wrap (many+(1:Int))))

def dS(p:(Option bN))(at1:Int)(e:dc):List aZ→Option Bool
  |[]=>
    (p).bind fun p2=>
    (nq p2.Plan at1).bind fun it=>
    (it (Bool×Int) (s9 (fun x s=>dU p x s.1 s.2)) (false,(0:Int))).bind fun(x1,x2)=>
    (p).bind fun p4=>
    if(at1==(IntKind.i64.wrap ((p4.Plan.Frags.length:Int)-(1:Int))))then
    ((if(((e.Way==(4:Int))&&(e.At==(2:Int)))&&(x2==(0:Int)))then((cB p at1).bind fun r=>
    (cN r (4:Int)).bind fun r1=>
    some (!r1))else some false).bind fun t=>
    some t)
    else
    (some (((e.Way !=(4:Int))&&(x2==(1:Int)))&&((e.Way==(3:Int))==x1)))
  |e1::tl=>
    (if(e1.Op==(9:Int))then((if(!(decide (at1≤e1.Table)))then((cB p e1.Table).bind fun r2=>
    (ee e1.Kinds r2).bind fun r3=>
    some (!r3))else some true).bind fun t2=>
    some t2)else some false).bind fun t1=>
    if t1 then
    (some false)
    else
    ((dS p at1 e tl))

def fR(p:(Option bN))(at1:Int):Option Bool:=
 (p).bind fun p1=>
 (ea p1.Plan.Frags at1).bind fun e=>
 dS p at1 e e.Nodes

def k8(x:bN):List dc→Nat→Option ((Option bN)×Int×Int×Int)
 |[],i1=>
  some ((some x),(0:Int),(0:Int),(0:Int))
 |e1::tl1,i1=>
  (fR (some x) (i1:Int)).bind fun r1=>
  if(!r1)then
  (some ((none:(Option bN)),(i1:Int),(0:Int),(290:Int)))
  else
  ((k8 x tl1) (i1+1))

def k9(q:eC):List dc→Nat→bN→Option ((Option bN)×Int×Int×Int)
  |[],i,x=>
    k8 x q.Frags 0
  |e::tl,i,x=>
    (oD e.Nodes).bind fun r2=>
    if(r2.2.2 !=(0:Int))then
    (some ((none:(Option bN)),(i:Int),r2.2.1,r2.2.2))
    else
    ((ea r2.1 (IntKind.i64.wrap ((r2.1.length:Int)-(1:Int)))).bind fun e2=>
    (kb (some x) e e2).bind fun r3=>
    if(!r3)then
    (some ((none:(Option bN)),(i:Int),(0:Int),(291:Int)))
    else
    ((mC x.kinds ([r2.1])).bind fun l1=>
    (k9 q tl) (i+1) ({x with kinds:=l1}:bN)))

def mL(q:eC)(c:aT):Option ((Option bN)×Int×Int×Int):=
  (jW c).bind fun r=>
  if(r !=(0:Int))then
  (some ((none:(Option bN)),(0:Int),(0:Int),r))
  else
  (if((decide ((q.Frags.length:Int)<(1:Int)))||(decide ((30:Int)<(q.Frags.length:Int))))then
  (some ((none:(Option bN)),(0:Int),(0:Int),(290:Int)))
  else
  (k9 q q.Frags 0 ({(⟨q,c,[]⟩:bN)with kinds:=([]:List (List (List Int)))}:bN)))

def tE(p:eC)(c:aT):Option (Int×Int×Int):=
 (mL p c).bind fun r=>
 some (r.2.1,r.2.2.1,r.2.2.2)

def ko(l:(Option cq)):Option bB:=
  (l).bind fun p=>
  (p.checker).bind fun p1=>
  (l).bind fun p2=>
  (ea p1.c.Tables p2.n.Table).bind fun e=>
  if(decide ((0:Int)<(e.Keys.length:Int)))then
  ((cu e.Keys).bind fun r=>
  some (⟨(2:Int),r⟩:bB))
  else
  (some (⟨(1:Int),[]⟩:bB))

def nD(l:(Option cq)):Option bB:=
  (l).bind fun p=>
  (p.checker).bind fun p1=>
  (l).bind fun p2=>
  (ea p1.Plan.Frags p2.n.Table).bind fun e=>
  if(e.Way==(1:Int))then
  ((cu e.Cols).bind fun r=>
  some (⟨(2:Int),r⟩:bB))
  else
  (some (⟨(3:Int),[]⟩:bB))

def nC(l:(Option cq)):Option bB:=
  (l).bind fun p=>
  (if(p.a_.Kind==(2:Int))then((l).bind fun p1=>
  some (p1.b.Kind==(2:Int)))else some false).bind fun t=>
  (if t then((l).bind fun p2=>
  (l).bind fun p3=>
  (ee p2.a_.Cols p3.b.Cols).bind fun r=>
  some r)else some false).bind fun t1=>
  if t1 then
  ((l).bind fun p4=>
  some p4.a_)
  else
  (some (⟨(1:Int),[]⟩:bB))

def oA(at1:(Int→Option Int)):List Int→(List Int)→bB→Option bB
  |[],cols,x=>
    some (⟨(2:Int),cols⟩:bB)
  |e::tl,cols,x=>
    (at1 e).bind fun r=>
    if(decide (r<(0:Int)))then
    (some (⟨(1:Int),[]⟩:bB))
    else
    ((mC cols ([r])).bind fun cols1=>
    (oA at1 tl) cols1 x)

def rK(p:bB)(at1:(Int→Option Int)):Option bB:=
 if(p.Kind !=(2:Int))then
 (some p)
 else
 (oA at1 p.Cols ([]:List Int) (⟨(0:Int),[]⟩:bB))

def ej(f:(bT→Option Bool)):List bT→Nat→Option Int
 |[],i=>
  some (-1:Int)
 |e::tl,i=>
  (f e).bind fun r=>
  if r then
  (some (i:Int))
  else
  ((ej f tl) (i+1))

def gY(s:(List bT))(f:(bT→Option Bool)):Option Int:=
 ej f s 0

def jZ(c:Int)(e:bT):Option Bool:=
  (if((e.Nodes.length:Int)==(1:Int))then((ea e.Nodes (0:Int)).bind fun e1=>
  some (e1.Tag==(2:Int)))else some false).bind fun t=>
  (if t then((ea e.Nodes (0:Int)).bind fun e2=>
  some (e2.Col==c))else some false).bind fun t1=>
  some t1

def kX(l:(Option cq))(c:Int):Option Int:=
 (l).bind fun p=>
 (gY p.n.Items (jZ c)).bind fun r=>
 some r

def l0(l:(Option cq)):Option bB:=
 (l).bind fun p=>
 (rK p.a_ (kX l)).bind fun r=>
 some r

def ma(l:(Option cq))(c:Int):Option Int:=
 (l).bind fun p=>
 (iy p.n.Keys c).bind fun r=>
 some r

def gB(l:(Option cq)):Option bB:=
 (l).bind fun p=>
 (rK p.a_ (ma l)).bind fun r=>
 some r

def eR(l:(Option cq)):Option bB:=
 (l).bind fun p=>
 some p.a_

def yc:Option (List (Int×((Option cq)→Option bB))):=
 some (gm (gm (gm (gm (gm (gm (gm (gm (gm (gm (gm ([]:List (Int×((Option cq)→Option bB))) (1:Int) ko) (9:Int) nD) (7:Int) nC) (5:Int) l0) (4:Int) gB) (10:Int) gB) (11:Int) gB) (3:Int) eR) (6:Int) eR) (8:Int) eR) (2:Int) eR)

def ij(nx:(List bB)→Option (List bB))(out:List bB)(x2:bB):Option (List bB):=
 (mC out ([x2])).bind fun out1=>
 nx out1

def j5(e:dc)(r:(List (Int×((Option cq)→Option bB))))(nx:(List bB)→Option (List bB))(e1:aZ)(out:List bB)(x1:cq):Option (List bB):=
  if(e.At==(1:Int))then
  ((((oW r e1.Op).getD (fun _=>none)) (some x1)).bind fun r1=>
  ij nx out r1)
  else
  (ij nx out (⟨(4:Int),[]⟩:bB))

def j6(e:dc)(r:(List (Int×((Option cq)→Option bB))))(nx:(List bB)→Option (List bB))(e1:aZ)(out:List bB)(x:cq):Option (List bB):=
  if(decide ((0:Int)≤e1.B))then
  ((ea out e1.B).bind fun e2=>
  j5 e r nx e1 out (cq.mk x.checker x.n x.a_ e2))
  else
  (j5 e r nx e1 out x)

def dr(p:(Option bN))(e:dc)(r:(List (Int×((Option cq)→Option bB)))):List aZ→(List bB)→Option (List bB)
  |[],out=>
    some out
  |e1::tl,out=>
    if(decide ((0:Int)≤e1.A))then
    ((ea out e1.A).bind fun e3=>
    j6 e r (dr p e r tl) e1 out (cq.mk (⟨p,e1,(⟨(0:Int),[]⟩:bB),(⟨(0:Int),[]⟩:bB)⟩:cq).checker (⟨p,e1,(⟨(0:Int),[]⟩:bB),(⟨(0:Int),[]⟩:bB)⟩:cq).n e3 (⟨p,e1,(⟨(0:Int),[]⟩:bB),(⟨(0:Int),[]⟩:bB)⟩:cq).b))
    else
    (j6 e r (dr p e r tl) e1 out (⟨p,e1,(⟨(0:Int),[]⟩:bB),(⟨(0:Int),[]⟩:bB)⟩:cq))

def jy(p:(Option bN))(frag:Int):Option (List bB):=
 (p).bind fun p1=>
 (ea p1.Plan.Frags frag).bind fun e=>
 (yc).bind fun r=>
 dr p e r e.Nodes ([]:List bB)

def rL(x:Int×Int)(x1:Bool)(x2:Int)(x3:Int):Option (Option Nat×(Bool×Int×Int)):=
 some (some 0,(true,x.2,x.1))

def rM(p:eC)(from1:Int):Option (Int×Int×Bool):=
 (nq p from1).bind fun it=>
 ((itU it) (Option Nat×(Bool×Int×Int)) (AN (fun x s=>rL x s.1 s.2.1 s.2.2)) (none,(false,(0:Int),(0:Int)))).bind fun r=>
 if r.1.1.isNone then
 (some ((0:Int),(0:Int),false))
 else
 (some (r.1.2.2.2,r.1.2.2.1,r.1.2.1))

def kY(place:Int)(n:aZ):Option Bool:=
 some ((n.A==place)||(n.B==place))

def me(p:(Option bN))(frag:Int):Option aZ:=
  (p).bind fun p1=>
  (rM p1.Plan frag).bind fun r=>
  if(!r.2.2)then
  (some (⟨(0:Int),(0:Int),(0:Int),(0:Int),[],false,(⟨[]⟩:bT),[],[],[],[],(0:Int)⟩:aZ))
  else
  ((p).bind fun p2=>
  (ea p2.Plan.Frags r.1).bind fun e=>
  (du e.Nodes (kY r.2.1)).bind fun r1=>
  if(decide (r1<(0:Int)))then
  (some (⟨(0:Int),(0:Int),(0:Int),(0:Int),[],false,(⟨[]⟩:bT),[],[],[],[],(0:Int)⟩:aZ))
  else
  ((p).bind fun p3=>
  (ea p3.Plan.Frags r.1).bind fun e1=>
  (ea e1.Nodes r1).bind fun e2=>
  some e2))

def cY(s2:(List jn))(eq:(jn→jn→Option Bool)):List jn→Nat→Option Bool
 |[],i=>
  some true
 |e::tl,i=>
  (ea s2 (i:Int)).bind fun e1=>
  (eq e e1).bind fun r=>
  if(!r)then
  (some false)
  else
  ((cY s2 eq tl) (i+1))

def ev(s1:(List jn))(s2:(List jn))(eq:(jn→jn→Option Bool)):Option Bool:=
 if((s1.length:Int) !=(s2.length:Int))then
 (some false)
 else
 (cY s2 eq s1 0)

def nr(p:jn)(y:jn):Option Bool:=
 some (p.Tag==y.Tag)

def d7(f:(bH→Option Bool)):List bH→Nat→Option Int
 |[],i=>
  some (-1:Int)
 |e::tl,i=>
  (f e).bind fun r=>
  if r then
  (some (i:Int))
  else
  ((d7 f tl) (i+1))

def gH(s:(List bH))(f:(bH→Option Bool)):Option Int:=
 d7 f s 0

def fY(s:(List bH))(f:(bH→Option Bool)):Option Bool:=
 (gH s f).bind fun r=>
 some (decide ((0:Int)≤r))

def wk(n:bH):Option Bool:=
 (nF n.Tag).bind fun r=>
 some r

def AC(e:bT):Option Bool:=
  (lC e).bind fun r=>
  (if(r==(0:Int))then((fY e.Nodes wk).bind fun r1=>
  some (!r1))else some false).bind fun t=>
  some t

def fm(s:(List bH)):Option (List bH):=
 (mC ([]:List bH) s).bind fun x=>
 some x

def qO(nx:(List bT)→(List Int)→Option (List bT))(out1:List bT)(open2:List Int):Option (List bT):=
 nx out1 open2

def qN(e3:Int)(nx1:Nat→bT→Option (List bT))(i:Nat)(part1:bT):Option (List bT):=
  (ea part1.Nodes (i:Int)).bind fun e6=>
  if(decide ((0:Int)≤e6.R))then
  ((some (part1.Nodes.set (i:Int).toNat ({e6 with R:=(IntKind.i64.wrap (e6.R-e3))}:bH))).bind fun st=>
  nx1 (i+1) ({part1 with Nodes:=st}:bT))
  else
  (nx1 (i+1) part1)

def mj(nx:(List bT)→(List Int)→Option (List bT))(out:List bT)(y:List Int)(e3:Int):List bH→Nat→bT→Option (List bT)
  |[],i,part=>
    (mC out ([part])).bind fun out2=>
    qO nx out2 y
  |e4::tl,i,part=>
    (ea part.Nodes (i:Int)).bind fun e5=>
    if(decide ((0:Int)≤e5.L))then
    ((some (part.Nodes.set (i:Int).toNat ({e5 with L:=(IntKind.i64.wrap (e5.L-e3))}:bH))).bind fun st1=>
    qN e3 (mj nx out y e3 tl) i ({part with Nodes:=st1}:bT))
    else
    (qN e3 (mj nx out y e3 tl) i part)

def jC(e:bT)(r:(List Int)×Bool):Nat→(List bT)→(List Int)→Option (List bT)
  |0,_,_=>none
  |n+1,out,open1=>
    if(decide ((0:Int)<(open1.length:Int)))then
    ((ea open1 (IntKind.i64.wrap ((open1.length:Int)-(1:Int)))).bind fun e1=>
    (cG open1 0 (IntKind.i64.wrap ((open1.length:Int)-(1:Int)))).bind fun y=>
    (ea e.Nodes e1).bind fun e2=>
    if(e2.Tag==(22:Int))then
    ((mC y ([e2.R,e2.L])).bind fun open3=>
    qO (jC e r n) out open3)
    else
    ((ea r.1 e1).bind fun e3=>
    (cG e.Nodes e3 (IntKind.i64.wrap (e1+(1:Int)))).bind fun y1=>
    (fm y1).bind fun r1=>
    mj (jC e r n) out y e3 r1 0 ({(⟨r1⟩:bT)with Nodes:=r1}:bT)))
    else
    (some out)

def AE(e:bT):Option (List bT):=
 (pf e).bind fun r=>
 if(!r.2)then
 (some ([]:List bT))
 else
 (jC e r sP ([]:List bT) ([(IntKind.i64.wrap ((e.Nodes.length:Int)-(1:Int)))]))

def AD(e:bT)(left:Int):Option (Int×Int×Bool):=
  (lC e).bind fun r=>
  (if(!((r !=(0:Int))||((e.Nodes.length:Int) !=(3:Int))))then((ea e.Nodes (2:Int)).bind fun e1=>
  some (e1.Tag !=(16:Int)))else some true).bind fun t=>
  if t then
  (some ((0:Int),(0:Int),false))
  else
  ((ea e.Nodes (0:Int)).bind fun e2=>
  (ea e.Nodes (1:Int)).bind fun e3=>
  if((e2.Tag !=(2:Int))||(e3.Tag !=(2:Int)))then
  (some ((0:Int),(0:Int),false))
  else
  (if((decide (left≤(min e2.Col e3.Col)))||(decide ((max e2.Col e3.Col)<left)))then
  (some ((0:Int),(0:Int),false))
  else
  (some ((min e2.Col e3.Col),(IntKind.i64.wrap ((max e2.Col e3.Col)-left)),true))))

def oz(b:bB)(held:List ((Int×Int)×Bool)):List Int→Nat→Option Bool
 |[],i1=>
  some true
 |e1::tl1,i1=>
  (ea b.Cols (i1:Int)).bind fun e2=>
  if(!((oW held (k2 ([e1,e2]))).getD false))then
  (some false)
  else
  ((oz b held tl1) (i1+1))

def md(a1:bB)(b:bB)(left:Int):List bT→(List ((Int×Int)×Bool))→Option Bool
 |[],held=>
  oz b held a1.Cols 0
 |e::tl,held=>
  (AD e left).bind fun r2=>
  if r2.2.2 then
  ((md a1 b left tl) (gm held (k2 ([r2.1,r2.2.1])) true))
  else
  ((md a1 b left tl) held)

def wc(n:aZ)(a1:bB)(b:bB)(left:Int):Option Bool:=
  if(b.Kind==(3:Int))then
  (some (a1.Kind !=(3:Int)))
  else
  ((if(!(((a1.Kind !=(2:Int))||(b.Kind !=(2:Int)))||((a1.Cols.length:Int) !=(b.Cols.length:Int))))then((AC n.Cond).bind fun r=>
  some (!r))else some true).bind fun t=>
  if t then
  (some false)
  else
  ((AE n.Cond).bind fun r1=>
  md a1 b left r1 ([]:List ((Int×Int)×Bool))))

def oB(keys:(List Int))(c:Int):Option Bool:=
 (cN keys c).bind fun r=>
 some (!r)

def uu(a1:bB)(keys:(List Int)):Option Bool:=
  (if(a1.Kind==(2:Int))then((cg a1.Cols (oB keys)).bind fun r=>
  some (!r))else some false).bind fun t=>
  some t

def fF(s2:(List kj)):List kj→Nat→Option Bool
 |[],i=>
  some true
 |e::tl,i=>
  (ea s2 (i:Int)).bind fun e1=>
  if(!decide (e=e1))then
  (some false)
  else
  ((fF s2 tl) (i+1))

def jJ(s1:(List kj))(s2:(List kj)):Option Bool:=
 if((s1.length:Int) !=(s2.length:Int))then
 (some false)
 else
 (fF s2 s1 0)

def j3(p:(Option bN))(frag:Int)(e:dc)(e1:aZ)(e2:bB)(x:Bool):Option Bool:=
  if x then
  ((uu e2 e1.Keys).bind fun r1=>
  some r1)
  else
  (if(e1.Op==(6:Int))then
  (some (e2.Kind==(2:Int)))
  else
  (if(e1.Op==(10:Int))then
  (some (e2.Kind !=(3:Int)))
  else
  (if(e1.Op==(8:Int))then
  ((me p frag).bind fun r2=>
  (if((((e2.Kind !=(3:Int))&&(e.Way==(3:Int)))&&(r2.Op==(8:Int)))&&(r2.Limit==e1.Limit))then((jJ r2.Order e1.Order).bind fun r3=>
  some r3)else some false).bind fun t1=>
  some t1)
  else
  (some true))))

def j4(p:(Option bN))(frag:Int)(l:(List bB))(e:dc)(e1:aZ):Option Bool:=
  if((e.At==(2:Int))||(decide (e1.A<(0:Int))))then
  (some true)
  else
  ((ea l e1.A).bind fun e2=>
  if(e1.Op==(2:Int))then
  ((ea l e1.B).bind fun e3=>
  (p).bind fun p2=>
  (ea p2.kinds frag).bind fun e4=>
  (ea e4 e1.A).bind fun e5=>
  (wc e1 e2 e3 (e5.length:Int)).bind fun r=>
  some r)
  else
  (if(e1.Op==(7:Int))then
  ((if(e2.Kind !=(3:Int))then((ea l e1.B).bind fun e6=>
  some (e6.Kind !=(3:Int)))else some false).bind fun t=>
  some t)
  else
  (if(e1.Op==(4:Int))then
  (j3 p frag e e1 e2 (e1.Op==(4:Int)))
  else
  (j3 p frag e e1 e2 (e1.Op==(11:Int))))))

def oC(p:(Option bN))(frag:Int)(at1:Int)(l:(List bB)):Option Bool:=
  (p).bind fun p1=>
  (ea p1.Plan.Frags frag).bind fun e=>
  (ea e.Nodes at1).bind fun e1=>
  if(e1.Op==(10:Int))then
  ((me p frag).bind fun r4=>
  (ev e1.Aggs r4.Aggs nr).bind fun r5=>
  if(((r4.Op !=(11:Int))||(!r5))||((e1.Keys.length:Int) !=(r4.Keys.length:Int)))then
  (some false)
  else
  (j4 p frag l e e1))
  else
  (j4 p frag l e e1)

def m9(frag:Int)(place:Int):Option (Int×Int×Int):=
 if(decide ((0:Int)≤frag))then
 (some (frag,place,(280:Int)))
 else
 (some ((0:Int),(0:Int),(0:Int)))

def pA(r:(Option bN)×Int×Int×Int)(nx:Nat→Int→Int→Option (Int×Int×Int))(i:Nat)(r1:(List bB)):List aZ→Nat→Int→Int→Option (Int×Int×Int)
 |[],i1,frag2,place2=>
  (ea r1 (IntKind.i64.wrap ((r1.length:Int)-(1:Int)))).bind fun e2=>
  if(e2.Kind==(3:Int))then
  (m9 (i:Int) (IntKind.i64.wrap ((r1.length:Int)-(1:Int))))
  else
  (nx (i+1) frag2 place2)
 |e1::tl1,i1,frag2,place2=>
  (oC r.1 (i:Int) (i1:Int) r1).bind fun r2=>
  if(!r2)then
  (m9 (i:Int) (i1:Int))
  else
  ((pA r nx i r1 tl1) (i1+1) frag2 place2)

def m8(r:(Option bN)×Int×Int×Int):List dc→Nat→Int→Int→Option (Int×Int×Int)
 |[],i,frag1,place1=>
  m9 frag1 place1
 |e::tl,i,frag1,place1=>
  (jy r.1 (i:Int)).bind fun r1=>
  pA r (m8 r tl) i r1 e.Nodes 0 frag1 place1

def tB(q:eC)(c:aT):Option (Int×Int×Int):=
 (mL q c).bind fun r=>
 if(r.2.2.2 !=(0:Int))then
 (some (r.2.1,r.2.2.1,r.2.2.2))
 else
 (m8 r q.Frags 0 (-1:Int) (0:Int))

def mM(q:eC)(c:aT)(frag:Int):Option ((List bB)×Int):=
  (mL q c).bind fun r=>
  if(r.2.2.2 !=(0:Int))then
  (some ([],r.2.2.2))
  else
  (if((decide (frag<(0:Int)))||(decide ((q.Frags.length:Int)≤frag)))then
  (some ([],(2:Int)))
  else
  ((jy r.1 frag).bind fun r1=>
  some (r1,(0:Int))))

def wh:Option (aT×eC):=
 some ((⟨[(⟨[116],[(⟨[97],(2:Int)⟩:aU),(⟨[98],(2:Int)⟩:aU)],[(0:Int)]⟩:bj)]⟩:aT),(⟨[(⟨[(⟨(1:Int),(-1:Int),(-1:Int),(0:Int),[(2:Int),(2:Int)],false,(⟨[]⟩:bT),[],[],[],[],(0:Int)⟩:aZ),(⟨(6:Int),(0:Int),(-1:Int),(0:Int),[],false,(⟨[]⟩:bT),[],[],[],[],(0:Int)⟩:aZ)],(1:Int),(3:Int),[]⟩:dc),(⟨[(⟨(9:Int),(-1:Int),(-1:Int),(0:Int),[(2:Int),(2:Int)],false,(⟨[]⟩:bT),[],[],[],[],(0:Int)⟩:aZ)],(2:Int),(4:Int),[]⟩:dc)]⟩:eC))

def rP:Option Bool:=
  (wh).bind fun r=>
  (tB r.2 r.1).bind fun r1=>
  (mM r.2 r.1 (0:Int)).bind fun r2=>
  (tE (⟨[]⟩:eC) r.1).bind fun r3=>
  (rM r.2 (0:Int)).bind fun r4=>
  (if(((((((r1.2.2==(0:Int))&&(r2.2==(0:Int)))&&(r3.2.2==(290:Int)))&&r4.2.2)&&(r4.1==(1:Int)))&&(r4.2.1==(0:Int)))&&((r2.1.length:Int)==(2:Int)))then((ea r2.1 (1:Int)).bind fun e=>
  some (e.Kind==(2:Int)))else some false).bind fun t=>
  (if t then((ea r2.1 (1:Int)).bind fun e1=>
  some ((e1.Cols.length:Int)==(1:Int)))else some false).bind fun t1=>
  some t1

def iR(l:(List bj))(most:Int):Option (List bj):=
 (cG l 0 (min (l.length:Int) most)).bind fun y=>
 (mC ([]:List bj) y).bind fun x=>
 some x

def gn(l:(List aU))(most:Int):Option (List aU):=
 (cG l 0 (min (l.length:Int) most)).bind fun y=>
 (mC ([]:List aU) y).bind fun x=>
 some x

def jU(l:(List Int))(most:Int):Option (List Int):=
 (cG l 0 (min (l.length:Int) most)).bind fun y=>
 (mC ([]:List Int) y).bind fun x=>
 some x

def hY:List bj→Nat→aT→Option aT
 |[],i,out=>
  some out
 |e::tl,i,out=>
  (ea out.Tables (i:Int)).bind fun e1=>
  (ea out.Tables (i:Int)).bind fun e2=>
  (gn e2.Columns (5:Int)).bind fun r1=>
  (jU e2.Keys (5:Int)).bind fun r2=>
  (some (out.Tables.set (i:Int).toNat ({e2 with Columns:=r1}:bj))).bind fun st=>
  (ea st (i:Int)).bind fun e3=>
  (some (st.set (i:Int).toNat ({e3 with Keys:=r2}:bj))).bind fun st1=>
  (hY tl) (i+1) ({out with Tables:=st1}:aT)

def lL(c:aT):Option aT:=
 (iR c.Tables (5:Int)).bind fun r=>
 hY r 0 ({(⟨r⟩:aT)with Tables:=r}:aT)

def oG(r2:(List aZ))(r5:Int×Int×Int):List bB→Nat→Option Bool
  |[],i1=>
    (if(!(r5.2.2==(0:Int)))then((ea ((⟨r2,(2:Int),(4:Int),[]⟩:dc).Nodes) (IntKind.i64.wrap ((((⟨r2,(2:Int),(4:Int),[]⟩:dc).Nodes).length:Int)-(1:Int)))).bind fun e3=>
    some (e3.Op==(10:Int)))else some true).bind fun t=>
    some t
  |e2::tl1,i1=>
    (if(!(e2.Kind !=(4:Int)))then((ea ((⟨r2,(2:Int),(4:Int),[]⟩:dc).Nodes) (i1:Int)).bind fun e4=>
    some ((e4.Op==(10:Int))&&(((r5.2.2 !=(280:Int))||(r5.1 !=(1:Int)))||(r5.2.1 !=(i1:Int)))))else some true).bind fun t1=>
    if t1 then
    (some false)
    else
    ((oG r2 r5 tl1) (i1+1))

def tH(r1:aT)(r2:(List aZ)):List aU→(List Int)→Option Bool
  |[],kinds=>
    (tE (⟨[(⟨[(⟨(1:Int),(-1:Int),(-1:Int),(0:Int),kinds,false,(⟨[]⟩:bT),[],[],[],[],(0:Int)⟩:aZ)],(1:Int),(3:Int),[]⟩:dc),(⟨r2,(2:Int),(4:Int),[]⟩:dc)]⟩:eC) r1).bind fun r4=>
    (tB (⟨[(⟨[(⟨(1:Int),(-1:Int),(-1:Int),(0:Int),kinds,false,(⟨[]⟩:bT),[],[],[],[],(0:Int)⟩:aZ)],(1:Int),(3:Int),[]⟩:dc),(⟨r2,(2:Int),(4:Int),[]⟩:dc)]⟩:eC) r1).bind fun r5=>
    if(r4.2.2 !=(0:Int))then
    (some (((r4.2.2==r5.2.2)&&(r4.1==r5.1))&&(r4.2.1==r5.2.1)))
    else
    ((mM (⟨[(⟨[(⟨(1:Int),(-1:Int),(-1:Int),(0:Int),kinds,false,(⟨[]⟩:bT),[],[],[],[],(0:Int)⟩:aZ)],(1:Int),(3:Int),[]⟩:dc),(⟨r2,(2:Int),(4:Int),[]⟩:dc)]⟩:eC) r1 (1:Int)).bind fun r6=>
    if((r6.2 !=(0:Int))||((r6.1.length:Int) !=(((⟨r2,(2:Int),(4:Int),[]⟩:dc).Nodes).length:Int)))then
    (some false)
    else
    (oG r2 r5 r6.1 0))
  |e1::tl,kinds=>
    (mC kinds ([e1.Kind])).bind fun kinds1=>
    (tH r1 r2 tl) kinds1

def wb(c:Int):Option Bool:=
 some ((decide ((97:Int)≤c))&&(decide (c≤(122:Int))))

def rG(nx:(List Int)→Int→Option gQ)(out:List Int)(i:Int)(c1:Int):Option gQ:=
 (mC out ([c1])).bind fun out1=>
 nx out1 (IntKind.i64.wrap (i+(1:Int)))

def rF(s:gQ):Nat→(List Int)→Int→Option gQ
  |0,_,_=>none
  |n+1,out,i=>
    if(decide (i<(s.length:Int)))then
    ((Bx s i).bind fun b=>
    (wb b).bind fun r=>
    if r then
    (rG (rF s n) out i (IntKind.u8.wrap ((IntKind.u8.wrap (b-(97:Int)))+(65:Int))))
    else
    (rG (rF s n) out i b))
    else
    (some (OQ out))

def CJ(c:Int):Option Bool:=
 some ((decide ((48:Int)≤c))&&(decide (c≤(57:Int))))

def wK(s:gQ):Nat→Int→Option Bool
  |0,_=>none
  |n+1,i=>
    if(decide (i<(s.length:Int)))then
    ((Bx s i).bind fun b1=>
    (wb b1).bind fun r3=>
    (if(!r3)then((Bx s i).bind fun b2=>
    (CJ b2).bind fun r4=>
    some (!r4))else some false).bind fun t2=>
    (if t2 then((Bx s i).bind fun b3=>
    some (b3 !=(95:Int)))else some false).bind fun t3=>
    if t3 then
    (some false)
    else
    ((wK s n) (IntKind.i64.wrap (i+(1:Int)))))
    else
    (some true)

def km(v:aQ):Option Bool:=
  if(v.Kind==(0:Int))then
  (some (decide (v=(⟨(0:Int),(0:Int),(0:Int),[]⟩:aQ))))
  else
  (if(v.Kind==(1:Int))then
  (some (((v.U==(0:Int))&&(v.S==([])))&&((v.N==(0:Int))||(v.N==(1:Int)))))
  else
  (if(v.Kind==(2:Int))then
  (some ((v.U==(0:Int))&&(v.S==([]))))
  else
  (if(v.Kind==(3:Int))then
  (some (((v.N==(0:Int))&&(v.U==(0:Int)))&&(decide ((v.S.length:Int)≤(40:Int)))))
  else
  (some ((v.Kind==(4:Int))&&(v.S==([])))))))

def rJ(v:aQ):Option Bool:=
 (km v).bind fun r=>
 some (r&&(v.Kind !=(4:Int)))

def kJ(n:bH):Option Bool:=
  if(n.Tag==(1:Int))then
  ((rJ n.Value).bind fun r=>
  some (r&&(n.Col==(0:Int))))
  else
  (if(n.Tag==(2:Int))then
  (some (((decide (n.Value=(⟨(0:Int),(0:Int),(0:Int),[]⟩:aQ)))&&(decide ((0:Int)≤n.Col)))&&(decide (n.Col<(16:Int)))))
  else
  (some ((decide (n.Value=(⟨(0:Int),(0:Int),(0:Int),[]⟩:aQ)))&&(n.Col==(0:Int)))))

def ow(k:Int)(want:Int):Option Bool:=
 some ((k==want)||(k==(0:Int)))

def xX(tag:Int)(l:Int)(r:Int):Option (Int×Bool):=
  if((tag==(4:Int))||((decide ((12:Int)≤tag))&&(decide (tag≤(15:Int)))))then
  ((ow l (2:Int)).bind fun r1=>
  (if r1 then((ow r (2:Int)).bind fun r2=>
  some r2)else some false).bind fun t=>
  some ((2:Int),t))
  else
  (if((tag==(5:Int))||(decide ((22:Int)≤tag)))then
  ((ow l (1:Int)).bind fun r3=>
  (if r3 then((ow r (1:Int)).bind fun r4=>
  some r4)else some false).bind fun t1=>
  some ((1:Int),t1))
  else
  (if((tag==(6:Int))||(tag==(7:Int)))then
  (some ((1:Int),true))
  else
  (some ((1:Int),(((l==r)||(l==(0:Int)))||(r==(0:Int)))))))

def s5(l:(List aZ))(kinds:(List Int)):Option eC:=
 some (⟨[(⟨l,(1:Int),(3:Int),[]⟩:dc),(⟨[(⟨(9:Int),(-1:Int),(-1:Int),(0:Int),kinds,false,(⟨[]⟩:bT),[],[],[],[],(0:Int)⟩:aZ)],(2:Int),(4:Int),[]⟩:dc)]⟩:eC)

def iQ(l:(List aQ))(most:Int):Option (List aQ):=
 (cG l 0 (min (l.length:Int) most)).bind fun y=>
 (mC ([]:List aQ) y).bind fun x=>
 some x

def jf(kinds:(List Int))(nx:Option Bool):List aQ→Nat→Option Bool
  |[],i1=>
    nx
  |e1::tl1,i1=>
    (lE e1).bind fun r=>
    (if(!(r !=(0:Int)))then((if(e1.Kind !=(0:Int))then((ea kinds (i1:Int)).bind fun e2=>
    some (e1.Kind !=e2))else some false).bind fun t1=>
    some t1)else some true).bind fun t=>
    if t then
    (some false)
    else
    ((jf kinds nx tl1) (i1+1))

def jg(kinds:(List Int)):List (List aQ)→Option Bool
 |[]=>
  some true
 |e::tl=>
  if((e.length:Int) !=(kinds.length:Int))then
  (some false)
  else
  (jf kinds (jg kinds tl) e 0)

def pj(rows:(List (List aQ)))(kinds:(List Int)):Option Bool:=
 if(decide ((12:Int)<(rows.length:Int)))then
 (some false)
 else
 (jg kinds rows)

def fD(b:pq)(nx:Nat→Option Int)(i:Nat):List aU→(List Int)→Option Int
 |[],kinds=>
  (ea b.Tables (i:Int)).bind fun e2=>
  (pj e2 kinds).bind fun r1=>
  if(!r1)then
  (some (250:Int))
  else
  (nx (i+1))
 |e1::tl1,kinds=>
  (mC kinds ([e1.Kind])).bind fun kinds1=>
  (fD b nx i tl1) kinds1

def eF(b:pq):List bj→Nat→Option Int
 |[],i=>
  some (0:Int)
 |e::tl,i=>
  fD b (eF b tl) i e.Columns ([]:List Int)

def kP(c:aT)(b:pq):Option Int:=
  (jW c).bind fun r=>
  if(r !=(0:Int))then
  (some r)
  else
  (if((b.Tables.length:Int) !=(c.Tables.length:Int))then
  (some (250:Int))
  else
  (eF b c.Tables 0))

def qy(t:bj)(r:(List aQ)):Option Bool:=
 (kP (⟨[t]⟩:aT) (⟨[[r]]⟩:pq)).bind fun r1=>
 some (r1==(0:Int))

def nk(v:aQ):Option Bool:=
 (lE v).bind fun r=>
 some (r !=(0:Int))

def cj(f:(aQ→Option Bool)):List aQ→Nat→Option Int
 |[],i=>
  some (-1:Int)
 |e::tl,i=>
  (f e).bind fun r=>
  if r then
  (some (i:Int))
  else
  ((cj f tl) (i+1))

def gX(s:(List aQ))(f:(aQ→Option Bool)):Option Int:=
 cj f s 0

def ek(s:(List aQ))(f:(aQ→Option Bool)):Option Bool:=
 (gX s f).bind fun r=>
 some (decide ((0:Int)≤r))

def sq(r:(List aQ)):Option Bool:=
  (if(decide ((r.length:Int)≤(16:Int)))then((ek r nk).bind fun r1=>
  some (!r1))else some false).bind fun t=>
  some t

def lY(nx:Int→Option Int)(e:(List (List aQ)))(n:Int):List (List aQ)→Option Int
 |[]=>
  nx (max n (e.length:Int))
 |e1::tl1=>
  (sq e1).bind fun r=>
  if(!r)then
  (some (150:Int))
  else
  ((lY nx e n tl1))

def iz:List (List (List aQ))→Int→Option Int
 |[],n=>
  if(decide ((8000:Int)<n))then
  (some (3:Int))
  else
  (some (0:Int))
 |e::tl,n=>
  lY (iz tl) e n e

def vx(l:(List (List (List aQ)))):Option Int:=
 iz l (0:Int)

def o5(c:Int):Option Bool:=
 some (decide (c<(0:Int)))

def sr(r:(List aQ))(c:Int):Option Bool:=
 some ((decide (c<(0:Int)))||(decide ((r.length:Int)≤c)))

def wR(r:(List aQ))(columns:(List Int)):Option Bool:=
  (if(decide ((columns.length:Int)≤(16:Int)))then((cg columns (sr r)).bind fun r1=>
  some (!r1))else some false).bind fun t=>
  some t

def nT(columns:(List Int)):List (List aQ)→Option Int
 |[]=>
  some (0:Int)
 |e::tl=>
  (wR e columns).bind fun r2=>
  if(!r2)then
  (some (2:Int))
  else
  ((nT columns tl))

def ss(l:(List (List aQ)))(columns:(List Int)):Option Int:=
  (vx ([l])).bind fun r=>
  if(r !=(0:Int))then
  (some r)
  else
  ((if(!(decide ((16:Int)<(columns.length:Int))))then((cg columns o5).bind fun r1=>
  some r1)else some true).bind fun t=>
  if t then
  (some (2:Int))
  else
  (nT columns l))

def nj(r:(List aQ)):List Int→(List aQ)→Option (List aQ)
 |[],out=>
  some out
 |e::tl,out=>
  (ea r e).bind fun e1=>
  (mC out ([e1])).bind fun out1=>
  (nj r tl) out1

def uk(r:(List aQ))(columns:(List Int)):Option (List aQ):=
 nj r columns ([]:List aQ)

def xT(r:(List aQ))(columns:(List Int)):Option ((List aQ)×Int):=
  (ss ([r]) columns).bind fun r1=>
  if(r1 !=(0:Int))then
  (some ([],r1))
  else
  ((uk r columns).bind fun r2=>
  some (r2,(0:Int)))

def jO(n:Int):Nat→(List Int)→Int→Option (List Int)
  |0,_,_=>none
  |n1+1,b1,i=>
    if(decide ((0:Int)≤i))then
    ((Rg i).bind fun u=>
    (mC b1 ([(IntKind.u8.wrap ((n).fdiv (2^(min (Int.toNat i) IntKind.u64.bits))))])).bind fun b2=>
    (jO n n1) b2 (IntKind.i64.wrap (i-(8:Int))))
    else
    (some b1)

def qr(b:(List Int))(n:Int):Option (List Int):=
 jO n sP b (56:Int)

def qn(nx1:Int→(List Int)→Option (List Int))(n2:Int):Nat→Int→(List Int)→Option (List Int)
  |0,_,_=>none
  |n4+1,x,out2=>
    if(decide (x<n2))then
    ((ea out2 n2).bind fun e4=>
    (ea out2 x).bind fun e5=>
    (ea out2 (IntKind.i64.wrap (n2+x))).bind fun e6=>
    (some (out2.set (IntKind.i64.wrap (n2+x)).toNat (mp .xor .u32 e4 e5))).bind fun ar3=>
    (qn nx1 n2 n4) (IntKind.i64.wrap (x+(1:Int))) ar3)
    else
    (nx1 (IntKind.i64.wrap (n2*(2:Int))) out2)

def nP:Nat→Int→(List Int)→Option (List Int)
 |0,_,_=>none
 |n3+1,n2,out1=>
  if(decide (n2<(256:Int)))then
  (qn (nP n3) n2 sP (0:Int) out1)
  else
  (some out1)

def nQ:Nat→Int→(List Int)→Option (List Int)
  |0,_,_=>none
  |n1+1,n,out=>
    if(decide ((0:Int)<n))then
    ((ea out (IntKind.i64.wrap ((2:Int)*n))).bind fun e1=>
    (ea out n).bind fun e2=>
    (some (out.set n.toNat ((e1).fdiv (2^(min (Int.toNat (1:Int)) IntKind.u32.bits))))).bind fun ar1=>
    if((mp .and .u32 e1 (1:Int))==(1:Int))then
    ((ea ar1 n).bind fun e3=>
    (some (ar1.set n.toNat (mp .xor .u32 e3 (2197175160:Int)))).bind fun ar2=>
    (nQ n1) (IntKind.i64.wrap ((n).tdiv (2:Int))) ar2)
    else
    ((nQ n1) (IntKind.i64.wrap ((n).tdiv (2:Int))) ar1))
    else
    (nP sP (2:Int) out)

def vn:Option (List Int):=
 (ea (List.replicate 256 (0:Int)) (128:Int)).bind fun e=>
 (some ((List.replicate 256 (0:Int)).set (128:Int).toNat (2197175160:Int))).bind fun ar=>
 nQ sP (64:Int) ar

def o3(register:Int)(cA:(List Int))(c:Int):Option Int:=
 (ea cA (mp .xor .u8 (IntKind.u8.wrap register) c)).bind fun e=>
 some (mp .xor .u32 ((register).fdiv (2^(min (Int.toNat (8:Int)) IntKind.u32.bits))) e)

def kH(r:(List Int)):List Int→Int→Option Int
 |[],register=>
  some (mp .xor .u32 (if IntKind.u32.signed then -1 else IntKind.u32.max) register)
 |e::tl,register=>
  (o3 register r e).bind fun r1=>
  (kH r tl) r1

def si(b:(List Int)):Option Int:=
 (vn).bind fun r=>
 kH r b (4294967295:Int)

def lH:List aQ→(List Int)→Option Int
 |[],b=>
  (si b).bind fun r1=>
  some r1
 |e::tl,b=>
  (mC b ([(IntKind.u8.wrap e.Kind)])).bind fun b2=>
  (qr b2 (IntKind.u64.wrap e.N)).bind fun r2=>
  (qr r2 e.U).bind fun r3=>
  (mC r3 ([(IntKind.u8.wrap (e.S.length:Int))])).bind fun l3=>
  (mC l3 (mo e.S)).bind fun b3=>
  (lH tl) b3

def ul(r:(List aQ)):Option Int:=
 lH r ([]:List Int)

def pR(r:(List aQ))(columns:(List Int)):Option (Int×Int):=
  (xT r columns).bind fun r1=>
  if(r1.2 !=(0:Int))then
  (some ((0:Int),r1.2))
  else
  ((ul r1.1).bind fun r2=>
  some (r2,(0:Int)))

def qx(t:bj)(r:(List aQ))(nodes:Int):Option Int:=
  if((t.Keys.length:Int)==(0:Int))then
  (some (0:Int))
  else
  ((pR r t.Keys).bind fun r1=>
  (nz (IntKind.u32.wrap nodes)).bind fun _=>
  some (IntKind.i64.wrap ((IntKind.i64.wrap ((r1.1).tmod (IntKind.u32.wrap nodes)))+(1:Int))))

def nt(c:aT)(cA:Int)(r:(List aQ))(nodes:Int):Option (Int×Int):=
  (jW c).bind fun r1=>
  if(r1 !=(0:Int))then
  (some ((0:Int),r1))
  else
  ((if(!((((decide (cA<(0:Int)))||(decide ((c.Tables.length:Int)≤cA)))||(decide (nodes<(1:Int))))||(decide ((8:Int)<nodes))))then((ea c.Tables cA).bind fun e=>
  (qy e r).bind fun r2=>
  some (!r2))else some true).bind fun t=>
  if t then
  (some ((0:Int),(2:Int)))
  else
  ((ea c.Tables cA).bind fun e1=>
  (qx e1 r nodes).bind fun r3=>
  some (r3,(0:Int))))

def ly:Option Bool:=
 some true

def lx(nx1:Nat→Option Bool)(i1:Nat):Option Bool:=
 nx1 (i1+1)

def ia(nx3:Int→Option Bool)(n:Int):Option Bool:=
 nx3 (IntKind.i64.wrap (n+(1:Int)))

def eg(cA:Int)(r1:aT)(r3:(List bB)×Int)(nx1:Nat→Option Bool)(i1:Nat)(r5:List aQ):Nat→Int→Option Bool
  |0,_=>none
  |n1+1,n=>
    if(decide (n≤(8:Int)))then
    ((nt r1 (IntKind.i64.wrap (((IntKind.u64.wrap cA)).tmod (IntKind.u64.wrap (r1.Tables.length:Int)))) r5 n).bind fun r6=>
    if(r6.2 !=(0:Int))then
    (lx nx1 i1)
    else
    ((ea r3.1 (0:Int)).bind fun e4=>
    if(e4.Kind !=(2:Int))then
    (if((r6.1 !=(0:Int))||(e4.Kind !=(1:Int)))then
    (some false)
    else
    (ia (eg cA r1 r3 nx1 i1 r5 n1) n))
    else
    ((pR r5 e4.Cols).bind fun r7=>
    (if(!(r7.2 !=(0:Int)))then((nz (IntKind.u32.wrap n)).bind fun _=>
    some (r6.1 !=(IntKind.i64.wrap ((IntKind.i64.wrap ((r7.1).tmod (IntKind.u32.wrap n)))+(1:Int)))))else some true).bind fun t=>
    if t then
    (some false)
    else
    (ia (eg cA r1 r3 nx1 i1 r5 n1) n))))
    else
    (lx nx1 i1)

def hZ(cA:Int)(r1:aT)(r3:(List bB)×Int)(nx1:Nat→Option Bool)(i1:Nat):Nat→Nat→(List aQ)→Option Bool
 |0,i2,r5=>
  eg cA r1 r3 nx1 i1 r5 sP (1:Int)
 |k1+1,i2,r5=>
  (ea r5 (i2:Int)).bind fun e5=>
  (cG e5.S 0 (min (e5.S.length:Int) (41:Int))).bind fun y=>
  (some (r5.set (i2:Int).toNat ({e5 with S:=y}:aQ))).bind fun st=>
  (hZ cA r1 r3 nx1 i1 k1) (i2+1) st

def c0(cA:Int)(r1:aT)(r3:(List bB)×Int):List (List aQ)→Nat→Option Bool
  |[],i1=>
    ly
  |e2::tl1,i1=>
    if((i1:Int)==(10:Int))then
    (ly)
    else
    ((iQ e2 (16:Int)).bind fun r4=>
    hZ cA r1 r3 (c0 cA r1 r3 tl1) i1 r4.length 0 r4)

def fS(cA:Int)(rows:(List (List aQ)))(r1:aT):List aU→(List Int)→Option Bool
 |[],kinds=>
  (s5 ([(⟨(1:Int),(-1:Int),(-1:Int),(IntKind.i64.wrap (((IntKind.u64.wrap cA)).tmod (IntKind.u64.wrap (r1.Tables.length:Int)))),kinds,false,(⟨[]⟩:bT),[],[],[],[],(0:Int)⟩:aZ)]) kinds).bind fun r2=>
  (mM r2 r1 (0:Int)).bind fun r3=>
  if(r3.2 !=(0:Int))then
  (some ((r3.2==(210:Int))||(r3.2==(291:Int))))
  else
  (c0 cA r1 r3 rows 0)
 |e1::tl,kinds=>
  (mC kinds ([e1.Kind])).bind fun kinds1=>
  (fS cA rows r1 tl) kinds1

def li(p:aT)(cA:Int)(rows:(List (List aQ))):Option Bool:=
  (rP).bind fun r=>
  if(!r)then
  (some false)
  else
  ((lL p).bind fun r1=>
  if((r1.Tables.length:Int)==(0:Int))then
  (some true)
  else
  ((nz (IntKind.u64.wrap (r1.Tables.length:Int))).bind fun _=>
  (ea r1.Tables (IntKind.i64.wrap (((IntKind.u64.wrap cA)).tmod (IntKind.u64.wrap (r1.Tables.length:Int))))).bind fun e=>
  fS cA rows r1 e.Columns ([]:List Int)))


end Go.Proofs.YtmogpgcfognefaaGreatDoor

