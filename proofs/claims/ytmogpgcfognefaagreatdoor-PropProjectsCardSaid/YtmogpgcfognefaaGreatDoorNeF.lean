/- co of this claim: F. -/
import Derived.Test.YtmogpgcfognefaaGreatDoorNeD
import Derived.Test.YtmogpgcfognefaaGreatDoorNeV4
import Derived.Lib.MapU
set_option linter.all false
namespace Go.Proofs.YtmogpgcfognefaaGreatDoor
open Go

def eS(f:(Int→Option Bool)):List Int→Nat→Option Int
 |[],i=>
  some (-1:Int)
 |e::tl,i=>
  (f e).bind fun r=>
  if r then
  (some (i:Int))
  else
  ((eS f tl) (i+1))

def jW(s:(List Int))(f:(Int→Option Bool)):Option Int:=
 eS f s 0

def ci(s:(List Int))(f:(Int→Option Bool)):Option Bool:=
 (jW s f).bind fun r=>
 some (decide ((0:Int)≤r))

def oF(k:Int):Option Bool:=
 some ((decide (k<(1:Int)))||(decide ((3:Int)<k)))

def km(l:al):Option (Bool×al):=
 (ci ((({l with result:=l.n.Kinds}:al).n).Kinds) oF).bind fun r=>
 some ((((((!r)&&(decide ((0:Int)≤((({l with result:=l.n.Kinds}:al).n).Table))))&&(decide (((({l with result:=l.n.Kinds}:al).n).Table)<(4:Int))))&&(decide ((0:Int)<(((({l with result:=l.n.Kinds}:al).n).Kinds).length:Int))))&&(decide ((((({l with result:=l.n.Kinds}:al).n).Kinds).length:Int)≤(4:Int)))),({l with result:=l.n.Kinds}:al))

def lR(k:Int):Option Bool:=
 some ((decide (k<(0:Int)))||(decide ((4:Int)<k)))

def fU(l:al):Option (Bool×al):=
 (ci ((({l with result:=l.n.Kinds}:al).n).Kinds) lR).bind fun r=>
 some ((((((!r)&&(decide ((0:Int)≤((({l with result:=l.n.Kinds}:al).n).Table))))&&(decide (((({l with result:=l.n.Kinds}:al).n).Table)<(30:Int))))&&(decide ((0:Int)<(((({l with result:=l.n.Kinds}:al).n).Kinds).length:Int))))&&(decide ((((({l with result:=l.n.Kinds}:al).n).Kinds).length:Int)≤(16:Int)))),({l with result:=l.n.Kinds}:al))

def kH(s:List Int):Option (List Int):=
 some s

def kI(n:Int):Option (List Int):=
  if(decide ((0:Int)<(IntKind.i64.wrap (n-(IntKind.i64.wrap ((0:Int)-(0:Int)))))))then
  ((Xh (IntKind.i64.wrap (n-(IntKind.i64.wrap ((0:Int)-(0:Int)))))).bind fun _=>
  (mP (IntKind.i64.wrap (n-(IntKind.i64.wrap ((0:Int)-(0:Int))))) (0:Int)).bind fun mk=>
  (dq mk 0 (0:Int)).bind fun y=>
  kH y)
  else
  (kH ([]:List Int))

def j7(n:Int):Option (List Int):=
 if(decide (n<(0:Int)))then
 (none)
 else
 (kI n)

def ib:List (List Int)→(List Int)→Option (List Int)
 |[],newslice=>
  some newslice
 |e1::tl1,newslice=>
  (kE newslice e1).bind fun newslice1=>
  (ib tl1) newslice1

def ic(slices:(List (List Int))):List (List Int)→Int→Option (List Int)
 |[],size=>
  (j7 size).bind fun r=>
  ib slices r
 |e::tl,size=>
  if(decide ((IntKind.i64.wrap (size+(e.length:Int)))<(0:Int)))then
  (none)
  else
  ((ic slices tl) (IntKind.i64.wrap (size+(e.length:Int))))

def gN(slices:(List (List Int))):Option (List Int):=
 ic slices slices (0:Int)

def nj(tag:Int):Option Int:=
  if((tag==(1:Int))||(tag==(2:Int)))then
  (some (0:Int))
  else
  (if((decide ((4:Int)≤tag))&&(decide (tag≤(7:Int))))then
  (some (1:Int))
  else
  (if((decide ((12:Int)≤tag))&&(decide (tag≤(23:Int))))then
  (some (2:Int))
  else
  (some (-1:Int))))

def ji(v1:M):Option M:=
 some v1

def nM(v2:M):Option M:=
 ji (M.mk (0:Int) v2.N v2.U v2.S)

def nL(v:M):Option M:=
 nM (M.mk v.Kind (0:Int) v.U v.S)

def nK(v3:M):Option M:=
 ji v3

def ut(v:M):Option M:=
  if(v.Kind==(1:Int))then
  (if((v.N !=(0:Int))&&(v.N !=(1:Int)))then
  (ji v)
  else
  (nL v))
  else
  (if(v.Kind==(2:Int))then
  (nL v)
  else
  (if(v.Kind==(0:Int))then
  (nM v)
  else
  (if(v.Kind==(3:Int))then
  (if(decide ((v.S.length:Int)≤(40:Int)))then
  (nK (M.mk (0:Int) v.N v.U ([])))
  else
  (nK v))
  else
  (if(v.Kind==(4:Int))then
  (ji (M.mk (0:Int) (0:Int) (0:Int) v.S))
  else
  (ji v)))))

def jL(v:M):Option Int:=
 (ut v).bind fun r=>
 if(!decide (r=(⟨(0:Int),(0:Int),(0:Int),[]⟩:M)))then
 (some (120:Int))
 else
 (some (0:Int))

def kB(v:M):Option Bool:=
 (jL v).bind fun r=>
 some ((r==(0:Int))&&(v.Kind !=(4:Int)))

def rK(n:bc):Option Bool:=
  if(n.Tag==(1:Int))then
  ((kB n.Value).bind fun r=>
  some (r&&(n.Col==(0:Int))))
  else
  (if(n.Tag==(2:Int))then
  (some (((decide (n.Value=(⟨(0:Int),(0:Int),(0:Int),[]⟩:M)))&&(decide ((0:Int)≤n.Col)))&&(decide (n.Col<(16:Int)))))
  else
  (some ((decide (n.Value=(⟨(0:Int),(0:Int),(0:Int),[]⟩:M)))&&(n.Col==(0:Int)))))

def ku(nx:Nat→(List Int)→(List Int)→Option ((List Int)×Bool))(i:Nat)(e1:bc)(all:List Int)(open1:List Int)(r:Int):List Int→Nat→Int→(List Int)→Option ((List Int)×Bool)
  |[],i1,first,at1=>
    if(!decide (at1=([e1.L,e1.R])))then
    (some ([],false))
    else
    ((kE all ([first])).bind fun all1=>
    (dq open1 0 (IntKind.i64.wrap ((open1.length:Int)-r))).bind fun y1=>
    (kE y1 ([(i:Int)])).bind fun open2=>
    nx (i+1) all1 open2)
  |e2::tl1,i1,first,at1=>
    (dR all e2).bind fun e3=>
    (dR at1 (i1:Int)).bind fun e4=>
    (some (at1.set (i1:Int).toNat e2)).bind fun ar=>
    (ku nx i e1 all open1 r tl1) (i1+1) (min first e3) ar

def jr:List bc→Nat→(List Int)→(List Int)→Option ((List Int)×Bool)
  |[],i,all,open1=>
    some (all,(((open1.length:Int)==(1:Int))&&(decide ((all.length:Int)≤(1000:Int)))))
  |e1::tl,i,all,open1=>
    (nj e1.Tag).bind fun r=>
    (if(!((decide (r<(0:Int)))||(decide ((open1.length:Int)<r))))then((rK e1).bind fun r1=>
    some (!r1))else some true).bind fun t=>
    if t then
    (some ([],false))
    else
    ((dq open1 (IntKind.i64.wrap ((open1.length:Int)-r)) (open1.length:Int)).bind fun y=>
    ku (jr tl) i e1 all open1 r y 0 (i:Int) ([(-1:Int),(-1:Int)]))

def rJ(e:bf):Option ((List Int)×Bool):=
 jr e.Nodes 0 ([]:List Int) ([]:List Int)

def mo(e:bf):Option Int:=
 (rJ e).bind fun r=>
 if(!r.2)then
 (some (200:Int))
 else
 (some (0:Int))

def dL(i:Nat)(y:List Int):Nat→Nat→(List Int)→Int→Option (List Int)
  |0,i1,s1,k=>
    (dq s1 k (s1.length:Int)).bind fun y1=>
    (some (s1.take k.toNat++List.replicate y1.length (0:Int))).bind fun cl=>
    (dq cl 0 k).bind fun y2=>
    some y2
  |k2+1,i1,s1,k=>
    (C5 s1 (i:Int) y.length (i1:Int)).bind fun e3=>
    (C5 s1 (i:Int) y.length (IntKind.i64.wrap ((i1:Int)-(1:Int)))).bind fun e4=>
    if(e3 !=e4)then
    ((C5 s1 (i:Int) y.length (i1:Int)).bind fun e5=>
    (dR s1 k).bind fun e6=>
    (some (s1.set k.toNat e5)).bind fun st=>
    (dL i y k2) (i1+1) st (IntKind.i64.wrap (k+(1:Int))))
    else
    ((dL i y k2) (i1+1) s1 k)

def em(s:(List Int)):List Int→Nat→Option (List Int)
  |[],i=>
    some s
  |e::tl,i=>
    (dR s (IntKind.i64.wrap ((i:Int)-(1:Int)))).bind fun e1=>
    if(e==e1)then
    ((dq s (i:Int) (s.length:Int)).bind fun y=>
    dL i y (y.length-1) 1 s (i:Int))
    else
    ((em s tl) (i+1))

def iR(s:(List Int)):Option (List Int):=
 if(decide ((s.length:Int)<(2:Int)))then
 (some s)
 else
 (em s (s.drop (1)) 1)

def kS:List bc→(List Int)→Option (List Int)
  |[],out=>
    (Br out).bind fun Uw=>
    (iR Uw).bind fun r1=>
    some r1
  |e1::tl,out=>
    if(e1.Tag==(2:Int))then
    ((kE out ([e1.Col])).bind fun out1=>
    (kS tl) out1)
    else
    ((kS tl) out)

def qt(e:bf):Option (List Int):=
 (mo e).bind fun r=>
 if(r !=(0:Int))then
 (some ([]:List Int))
 else
 (kS e.Nodes ([]:List Int))

def cD(s:(List Int)):Option (List Int):=
 (kE ([]:List Int) s).bind fun x=>
 some x

def m5(stack:(List Int))(k:Int):Option ((List Int)×(List Int)):=
 (dq stack (IntKind.i64.wrap ((stack.length:Int)-k)) (stack.length:Int)).bind fun y=>
 (cD y).bind fun r=>
 (dq stack 0 (IntKind.i64.wrap ((stack.length:Int)-k))).bind fun y1=>
 some (r,y1)

def kr(bad:Int)(stack:List Int):Option (Int×Int):=
  if(bad !=(0:Int))then
  (some ((0:Int),bad))
  else
  ((dR stack (0:Int)).bind fun e1=>
  some (e1,(0:Int)))

def ge(do1:(bc→(List Int)→Option (Int×Int))):List bc→Int→(List Int)→Option (Int×Int)
  |[],bad1,stack1=>
    kr bad1 stack1
  |e2::tl,bad1,stack1=>
    (nj e2.Tag).bind fun r=>
    (m5 stack1 r).bind fun r1=>
    (do1 e2 r1.1).bind fun r2=>
    if(r2.2 !=(0:Int))then
    (kr r2.2 r1.2)
    else
    ((kE r1.2 ([r2.1])).bind fun l2=>
    (ge do1 tl) bad1 l2)

def mX(e:bf)(do1:(bc→(List Int)→Option (Int×Int))):Option (Int×Int):=
 ge do1 e.Nodes (0:Int) ([]:List Int)

def pM(tag:Int):Option Bool:=
 some ((tag==(4:Int))||((decide ((12:Int)≤tag))&&(decide (tag≤(15:Int)))))

def kw(kinds:(List Int))(n:bc):List Int→Int→Option (Int×Int)
  |[],own=>
    if(n.Tag==(1:Int))then
    (some (n.Value.Kind,(0:Int)))
    else
    (if(n.Tag==(2:Int))then
    ((dR kinds n.Col).bind fun e1=>
    some (e1,(0:Int)))
    else
    ((pM n.Tag).bind fun r=>
    if r then
    (if((own==(-1:Int))||((own !=(0:Int))&&(own !=(2:Int))))then
    (some ((0:Int),(201:Int)))
    else
    (some ((2:Int),(0:Int))))
    else
    (if(((n.Tag==(5:Int))||(n.Tag==(22:Int)))||(n.Tag==(23:Int)))then
    (if((own==(-1:Int))||((own !=(0:Int))&&(own !=(1:Int))))then
    (some ((0:Int),(201:Int)))
    else
    (some ((1:Int),(0:Int))))
    else
    (if((own==(-1:Int))||((own !=(0:Int))&&(own !=own)))then
    (some ((0:Int),(201:Int)))
    else
    (some ((1:Int),(0:Int)))))))
  |e::tl,own=>
    if((e==(0:Int))||(e==own))then
    ((kw kinds n tl) own)
    else
    (if(own==(0:Int))then
    ((kw kinds n tl) e)
    else
    ((kw kinds n tl) (-1:Int)))

def ir(kinds:(List Int))(n:bc)(l:(List Int)):Option (Int×Int):=
 kw kinds n l (0:Int)

def kR(e:bf)(kinds:(List Int)):List Int→Option (Int×Int)
 |[]=>
  (mX e (ir kinds)).bind fun r2=>
  some (r2.1,r2.2)
 |e2::tl1=>
  if(decide ((kinds.length:Int)≤e2))then
  (some ((0:Int),(2:Int)))
  else
  ((kR e kinds tl1))

def nX(e:bf)(kinds:(List Int)):List Int→Option (Int×Int)
 |[]=>
  (qt e).bind fun r1=>
  kR e kinds r1
 |e1::tl=>
  if((decide (e1<(0:Int)))||(decide ((3:Int)<e1)))then
  (some ((0:Int),(2:Int)))
  else
  ((nX e kinds tl))

def mE(e:bf)(kinds:(List Int)):Option (Int×Int):=
 (mo e).bind fun r=>
 if(r !=(0:Int))then
 (some ((0:Int),r))
 else
 (nX e kinds kinds)

def nd(e:bf)(kinds:(List Int)):Option Bool:=
 (mE e kinds).bind fun r=>
 some ((r.2==(0:Int))&&((r.1==(0:Int))||(r.1==(1:Int))))

def ko(l:al):Option (Bool×al):=
 (gN ([l.a_,l.b])).bind fun r=>
 (nd ((({l with result:=r}:al).n).Cond) (({l with result:=r}:al).result)).bind fun r1=>
 some (r1,({l with result:=r}:al))

def jd(l:al):Option (Bool×al):=
 (nd ((({l with result:=l.a_}:al).n).Cond) (({l with result:=l.a_}:al).a_)).bind fun r=>
 some (r,({l with result:=l.a_}:al))

def eu(nx1:Bool→al→Option (Bool×al))(ob1:al)(ok1:Bool)(k:Int):Option (Bool×al):=
 (kE ob1.result ([k])).bind fun l7=>
 nx1 ok1 ({ob1 with result:=l7}:al)

def gU(nx1:Bool→al→Option (Bool×al))(e1:jx)(ok:Bool)(ob1:al)(r:Int×Int)(x:Bool):Option (Bool×al):=
 if x then
 (eu nx1 ob1 (((ok&&(r.2==(0:Int)))&&(decide ((1:Int)<e1.Tag)))&&(decide (e1.Tag≤(5:Int)))) r.1)
 else
 (eu nx1 ob1 (((ok&&(r.2==(0:Int)))&&(decide ((1:Int)<e1.Tag)))&&(decide (e1.Tag≤(5:Int)))) (2:Int))

def cw:List jx→Bool→al→Option (Bool×al)
  |[],ok,ob1=>
    some (ok,ob1)
  |e1::tl1,ok,ob1=>
    if(e1.Tag==(1:Int))then
    (eu (cw tl1) ob1 (ok&&((e1.Arg.Nodes.length:Int)==(0:Int))) (2:Int))
    else
    ((mE e1.Arg ob1.a_).bind fun r=>
    if(e1.Tag==(3:Int))then
    (eu (cw tl1) ob1 ((((ok&&(r.2==(0:Int)))&&(decide ((1:Int)<e1.Tag)))&&(decide (e1.Tag≤(5:Int))))&&((r.1==(2:Int))||(r.1==(0:Int)))) (2:Int))
    else
    (if(e1.Tag==(4:Int))then
    (gU (cw tl1) e1 ok ob1 r (e1.Tag==(4:Int)))
    else
    (gU (cw tl1) e1 ok ob1 r (e1.Tag==(5:Int)))))

def dl(l:al):List Int→al→Option (Bool×al)
  |[],ob=>
    cw l.n.Aggs (((decide ((l.n.Keys.length:Int)≤(3:Int)))&&(decide ((l.n.Aggs.length:Int)≤(12:Int))))&&(decide ((0:Int)<(IntKind.i64.wrap ((l.n.Keys.length:Int)+(l.n.Aggs.length:Int)))))) ob
  |e::tl,ob=>
    if((decide (e<(0:Int)))||(decide ((ob.a_.length:Int)≤e)))then
    (some (false,ob))
    else
    ((dR ob.a_ e).bind fun e2=>
    (kE ob.result ([e2])).bind fun l9=>
    (dl l tl) ({ob with result:=l9}:al))

def eD(l:al):Option (Bool×al):=
 dl l l.n.Keys ({l with result:=([]:List Int)}:al)

def gc:List jx→Nat→al→Option (Bool×al)
  |[],i1,ob=>
    some (true,ob)
  |e::tl,i1,ob=>
    if(e.Tag==(3:Int))then
    ((dR ob.result (IntKind.i64.wrap ((ob.n.Keys.length:Int)+(i1:Int)))).bind fun e1=>
    (some (ob.result.set (IntKind.i64.wrap ((ob.n.Keys.length:Int)+(i1:Int))).toNat (4:Int))).bind fun st=>
    (gc tl) (i1+1) ({ob with result:=st}:al))
    else
    ((gc tl) (i1+1) ob)

def iy(l:al):Option (Bool×al):=
 (eD l).bind fun r=>
 if(!r.1)then
 (some (false,r.2))
 else
 (gc r.2.n.Aggs 0 r.2)

def kL(nx1:Nat→Bool→al→Option (Bool×al))(i1:Nat)(e2:jx)(ok1:Bool)(ob:al)(e3:Int)(x1:Bool):Option (Bool×al):=
 if x1 then
 (nx1 (i1+1) ((ok1&&((e2.Arg.Nodes.length:Int)==(0:Int)))&&(e3 !=(4:Int))) ob)
 else
 (nx1 (i1+1) false ob)

def jn(l:al)(nx1:Nat→Bool→al→Option (Bool×al))(i1:Nat)(e2:jx)(ok1:Bool)(ob:al)(e3:Int)(x:Bool):Option (Bool×al):=
  if x then
  (nx1 (i1+1) ((ok1&&((e2.Arg.Nodes.length:Int)==(0:Int)))&&(e3==(2:Int))) ob)
  else
  (if(e2.Tag==(3:Int))then
  ((dR ob.result (IntKind.i64.wrap ((l.n.Keys.length:Int)+(i1:Int)))).bind fun e4=>
  (some (ob.result.set (IntKind.i64.wrap ((l.n.Keys.length:Int)+(i1:Int))).toNat (2:Int))).bind fun st=>
  nx1 (i1+1) ((ok1&&((e2.Arg.Nodes.length:Int)==(0:Int)))&&(e3==(4:Int))) ({ob with result:=st}:al))
  else
  (if(e2.Tag==(4:Int))then
  (kL nx1 i1 e2 ok1 ob e3 (e2.Tag==(4:Int)))
  else
  (kL nx1 i1 e2 ok1 ob e3 (e2.Tag==(5:Int)))))

def dW(l:al):List jx→Nat→Bool→al→Option (Bool×al)
 |[],i1,ok1,ob=>
  some (ok1,ob)
 |e2::tl1,i1,ok1,ob=>
  (dR ob.a_ (IntKind.i64.wrap ((l.n.Keys.length:Int)+(i1:Int)))).bind fun e3=>
  if(e2.Tag==(1:Int))then
  (jn l (dW l tl1) i1 e2 ok1 ob e3 (e2.Tag==(1:Int)))
  else
  (jn l (dW l tl1) i1 e2 ok1 ob e3 (e2.Tag==(2:Int)))

def jm(l:al)(r:(List Int)):List Int→Nat→Bool→Option (Bool×al)
  |[],i,ok=>
    dW l l.n.Aggs 0 ok ({l with result:=r}:al)
  |e1::tl,i,ok=>
    (if(ok&&(e1==(i:Int)))then((dR l.a_ (i:Int)).bind fun e5=>
    some (e5 !=(4:Int)))else some false).bind fun t=>
    (jm l r tl) (i+1) t

def jE(l:al):Option (Bool×al):=
  (dR l.nodes l.n.A).bind fun e=>
  if(!((((e.Op==(9:Int))&&(decide ((l.n.Keys.length:Int)≤(3:Int))))&&(decide ((l.n.Aggs.length:Int)≤(12:Int))))&&((IntKind.i64.wrap ((l.n.Keys.length:Int)+(l.n.Aggs.length:Int)))==(l.a_.length:Int))))then
  (some (false,l))
  else
  ((cD l.a_).bind fun r=>
  jm l r l.n.Keys 0 ((((e.Op==(9:Int))&&(decide ((l.n.Keys.length:Int)≤(3:Int))))&&(decide ((l.n.Aggs.length:Int)≤(12:Int))))&&((IntKind.i64.wrap ((l.n.Keys.length:Int)+(l.n.Aggs.length:Int)))==(l.a_.length:Int))))

def fh:List bf→al→Option (Bool×al)
  |[],ob=>
    some (decide ((0:Int)<(ob.result.length:Int)),ob)
  |e::tl,ob=>
    (mE e ob.a_).bind fun r=>
    if(r.2 !=(0:Int))then
    (some (false,ob))
    else
    ((kE ob.result ([r.1])).bind fun l4=>
    (fh tl) ({ob with result:=l4}:al))

def gv(l:al):Option (Bool×al):=
 fh l.n.Items ({l with result:=([]:List Int)}:al)

def li(l:al):Option (Bool×al):=
 some (true,({l with result:=l.a_}:al))

def gT(nx:Nat→al→Option (Bool×al))(i:Nat)(ob:al)(e1:Int)(k:Int):Option (Bool×al):=
  if((e1 !=(0:Int))&&(e1 !=k))then
  (some (false,ob))
  else
  ((kE ob.result ([k])).bind fun l4=>
  nx (i+1) ({ob with result:=l4}:al))

def fg:List Int→Nat→al→Option (Bool×al)
 |[],i,ob=>
  some (true,ob)
 |e::tl,i,ob=>
  (dR ob.b (i:Int)).bind fun e1=>
  if(e==(0:Int))then
  (gT (fg tl) i ob e1 e1)
  else
  (gT (fg tl) i ob e1 e)

def jD(l:al):Option (Bool×al):=
 if((l.a_.length:Int) !=(l.b.length:Int))then
 (some (false,l))
 else
 (fg l.a_ 0 ({l with result:=([]:List Int)}:al))

def du(f:(lN→Option Bool)):List lN→Nat→Option Int
 |[],i=>
  some (-1:Int)
 |e::tl,i=>
  (f e).bind fun r=>
  if r then
  (some (i:Int))
  else
  ((du f tl) (i+1))

def gq(s:(List lN))(f:(lN→Option Bool)):Option Int:=
 du f s 0

def eg(s:(List lN))(f:(lN→Option Bool)):Option Bool:=
 (gq s f).bind fun r=>
 some (decide ((0:Int)≤r))

def my(l:al)(o:lN):Option Bool:=
 some ((decide (o.Col<(0:Int)))||(decide ((l.a_.length:Int)≤o.Col)))

def kj(l:al):Option (Bool×al):=
 (eg ((({l with result:=l.a_}:al).n).Order) (my ({l with result:=l.a_}:al))).bind fun r=>
 some (((((!r)&&(decide ((((({l with result:=l.a_}:al).n).Order).length:Int)≤(3:Int))))&&(decide ((-1:Int)≤((({l with result:=l.a_}:al).n).Limit))))&&(decide (((({l with result:=l.a_}:al).n).Limit)≤(2147483647:Int)))),({l with result:=l.a_}:al))

def mz:Option (List (Int×(al→Unit→Option (Bool×al)))):=
 some (fB (fB (fB (fB (fB (fB (fB (fB (fB (fB (fB ([]:List (Int×(al→Unit→Option (Bool×al)))) (1:Int) (fun(mc:al) (mx:Unit)=>km mc)) (9:Int) (fun(mc:al) (mx:Unit)=>fU mc)) (2:Int) (fun(mc:al) (mx:Unit)=>ko mc)) (3:Int) (fun(mc:al) (mx:Unit)=>jd mc)) (4:Int) (fun(mc:al) (mx:Unit)=>eD mc)) (10:Int) (fun(mc:al) (mx:Unit)=>iy mc)) (11:Int) (fun(mc:al) (mx:Unit)=>jE mc)) (5:Int) (fun(mc:al) (mx:Unit)=>gv mc)) (6:Int) (fun(mc:al) (mx:Unit)=>li mc)) (7:Int) (fun(mc:al) (mx:Unit)=>jD mc)) (8:Int) (fun(mc:al) (mx:Unit)=>kj mc))

def ie(x2:Bool):Option Int:=
 if x2 then
 (some (1:Int))
 else
 (some (-1:Int))

def o7(op:Int)(x1:Bool):Option Int:=
  if x1 then
  (some (2:Int))
  else
  (if(op==(3:Int))then
  (ie (op==(3:Int)))
  else
  (if(op==(4:Int))then
  (ie (op==(4:Int)))
  else
  (if(op==(5:Int))then
  (ie (op==(5:Int)))
  else
  (if(op==(6:Int))then
  (ie (op==(6:Int)))
  else
  (if(op==(8:Int))then
  (ie (op==(8:Int)))
  else
  (if(op==(10:Int))then
  (ie (op==(10:Int)))
  else
  (ie (op==(11:Int)))))))))

def o8(op:Int)(x:Bool):Option Int:=
  if x then
  (some (0:Int))
  else
  (if(op==(2:Int))then
  (o7 op (op==(2:Int)))
  else
  (o7 op (op==(7:Int))))

def tq(op:Int):Option Int:=
 if(op==(1:Int))then
 (o8 op (op==(1:Int)))
 else
 (o8 op (op==(9:Int)))

def oG(n:aK):Option Bool:=
 some ((((((((n.Op==(1:Int))||(n.Op==(9:Int)))||((n.Table==(0:Int))&&((n.Kinds.length:Int)==(0:Int))))&&((n.Op==(2:Int))||(!n.Left)))&&(((n.Op==(2:Int))||(n.Op==(3:Int)))||((n.Cond.Nodes.length:Int)==(0:Int))))&&((((n.Op==(4:Int))||(n.Op==(10:Int)))||(n.Op==(11:Int)))||((IntKind.i64.wrap ((n.Keys.length:Int)+(n.Aggs.length:Int)))==(0:Int))))&&((n.Op==(5:Int))||((n.Items.length:Int)==(0:Int))))&&((n.Op==(8:Int))||(((n.Order.length:Int)==(0:Int))&&(n.Limit==(0:Int)))))

def f8(v:Int):List Int→Nat→Option Int
 |[],i=>
  some (-1:Int)
 |e::tl,i=>
  if(v==e)then
  (some (i:Int))
  else
  ((f8 v tl) (i+1))

def f9(s:(List Int))(v:Int):Option Int:=
 f8 v s 0

def df(s:(List Int))(v:Int):Option Bool:=
 (f9 s v).bind fun r=>
 some (decide ((0:Int)≤r))

def bh(l:al)(i:Int)(ask:(al→Unit→Option (Bool×al)))(e:aK)(r:Int):List Int→Nat→(List Int)→(List Int)→Option (Bool×al)
  |[],i5,a_,b3=>
    if(((e.Op==(8:Int))||(e.Op==(10:Int)))&&(i !=(IntKind.i64.wrap (((({({({({({l with n:=e}:al)with a_:=[]}:al)with b:=[]}:al)with a_:=a_}:al)with b:=b3}:al).nodes).length:Int)-(1:Int)))))then
    (some (false,({({({({({l with n:=e}:al)with a_:=[]}:al)with b:=[]}:al)with a_:=a_}:al)with b:=b3}:al)))
    else
    ((ask ({({({({({l with n:=e}:al)with a_:=[]}:al)with b:=[]}:al)with a_:=a_}:al)with b:=b3}:al) ()).bind fun r2=>
    if((!r2.1)||(decide ((16:Int)<(r2.2.result.length:Int))))then
    (some (false,r2.2))
    else
    ((kE r2.2.kinds ([r2.2.result])).bind fun l1=>
    (dq r2.2.open_ 0 (IntKind.i64.wrap ((r2.2.open_.length:Int)-r))).bind fun y2=>
    (kE y2 ([i])).bind fun l2=>
    some (true,({({r2.2 with kinds:=l1}:al)with open_:=l2}:al))))
  |e1::tl,i5,a_,b3=>
    (dR l.kinds e1).bind fun e2=>
    (if(e.Op !=(11:Int))then((df e2 (4:Int)).bind fun r3=>
    some r3)else some false).bind fun t1=>
    if t1 then
    (some (false,({({({({({l with n:=e}:al)with a_:=[]}:al)with b:=[]}:al)with a_:=a_}:al)with b:=b3}:al)))
    else
    (if((i5:Int)==(0:Int))then
    ((bh l i ask e r tl) (i5+1) (({({({({({({l with n:=e}:al)with a_:=[]}:al)with b:=[]}:al)with a_:=a_}:al)with b:=b3}:al)with a_:=e2}:al).a_) (({({({({({({l with n:=e}:al)with a_:=[]}:al)with b:=[]}:al)with a_:=a_}:al)with b:=b3}:al)with a_:=e2}:al).b))
    else
    ((bh l i ask e r tl) (i5+1) (({({({({({({l with n:=e}:al)with a_:=[]}:al)with b:=[]}:al)with a_:=a_}:al)with b:=b3}:al)with b:=e2}:al).a_) (({({({({({({l with n:=e}:al)with a_:=[]}:al)with b:=[]}:al)with a_:=a_}:al)with b:=b3}:al)with b:=e2}:al).b)))

def gH(l:al)(i:Int)(ask:(al→Unit→Option (Bool×al))):Option (Bool×al):=
  (dR l.nodes i).bind fun e=>
  (tq e.Op).bind fun r=>
  (if(!((decide (r<(0:Int)))||(decide ((l.open_.length:Int)<r))))then((oG e).bind fun r1=>
  some (!r1))else some true).bind fun t=>
  if t then
  (some (false,l))
  else
  ((dq l.open_ (IntKind.i64.wrap ((l.open_.length:Int)-r)) (l.open_.length:Int)).bind fun y=>
  if(!decide ((rN ([(-1:Int),(-1:Int)]) y)=([e.A,e.B])))then
  (some (false,l))
  else
  ((dq l.open_ (IntKind.i64.wrap ((l.open_.length:Int)-r)) (l.open_.length:Int)).bind fun y1=>
  bh l i ask e r y1 0 (({({({l with n:=e}:al)with a_:=[]}:al)with b:=[]}:al).a_) (({({({l with n:=e}:al)with a_:=[]}:al)with b:=[]}:al).b)))

def lx:List (List Int)→(List (List Int))→Option ((List (List Int))×Int×Int)
 |[],out=>
  some (out,(0:Int),(0:Int))
 |e::tl,out=>
  (cD e).bind fun r1=>
  (kE out ([r1])).bind fun out1=>
  (lx tl) out1

def pc(ob:al)(wrong1:Int):Option ((List (List Int))×Int×Int):=
 if(decide ((0:Int)≤wrong1))then
 (some ([],wrong1,(291:Int)))
 else
 (lx ob.kinds ([]:List (List Int)))

def pe(nodes:(List aK))(wrong:Int)(ob:al):Option ((List (List Int))×Int×Int):=
 if((decide (wrong<(0:Int)))&&((ob.open_.length:Int) !=(1:Int)))then
 (pc ob (IntKind.i64.wrap ((nodes.length:Int)-(1:Int))))
 else
 (pc ob wrong)

def gn(nodes:(List aK))(r:(List (Int×(al→Unit→Option (Bool×al))))):List aK→Nat→Int→al→Option ((List (List Int))×Int×Int)
 |[],i1,wrong2,ob1=>
  pe nodes wrong2 ob1
 |e1::tl1,i1,wrong2,ob1=>
  (gH ob1 (i1:Int) ((nV r e1.Op).getD (fun _ _=>none))).bind fun r2=>
  if(!r2.1)then
  (pe nodes (i1:Int) r2.2)
  else
  ((gn nodes r tl1) (i1+1) wrong2 r2.2)

def jY(nodes:(List aK)):Option ((List (List Int))×Int×Int):=
  if((decide ((nodes.length:Int)<(1:Int)))||(decide ((60:Int)<(nodes.length:Int))))then
  (some ([],(0:Int),(291:Int)))
  else
  ((mz).bind fun r=>
  gn nodes r nodes 0 (-1:Int) (⟨nodes,[],[],(⟨(0:Int),(0:Int),(0:Int),(0:Int),[],false,(⟨[]⟩:bf),[],[],[],[],(0:Int)⟩:aK),[],[],[]⟩:al))

def sG(c:Int):Option Bool:=
 some ((decide ((97:Int)≤c))&&(decide (c≤(122:Int))))

def ei(v:im):List im→Nat→Option Int
 |[],i=>
  some (-1:Int)
 |e::tl,i=>
  if(v==e)then
  (some (i:Int))
  else
  ((ei v tl) (i+1))

def jj(s:(List im))(v:im):Option Int:=
 ei v s 0

def ip(s:(List im))(v:im):Option Bool:=
 (jj s v).bind fun r=>
 some (decide ((0:Int)≤r))

def tt(s:im):Option Bool:=
 (ip UM s).bind fun r=>
 some r

def iD(s:im):Option im:=if s.length<35184372088832 then some (Lib.toUpperD s)else none

def vM(c:Int):Option Bool:=
 some ((decide ((48:Int)≤c))&&(decide (c≤(57:Int))))

def mW:List (Int×Int)→Option Bool
  |[]=>
    some true
  |e::tl=>
    (vM e.2).bind fun r3=>
    (if(!r3)then((sG e.2).bind fun r4=>
    some (!r4))else some false).bind fun t2=>
    if(t2&&(e.2 !=(95:Int)))then
    (some false)
    else
    ((mW tl))

def oM(s:im):Option Bool:=
  (if(!((s==([]))||(decide ((16:Int)<(s.length:Int)))))then((Ln s (0:Int)).bind fun b=>
  (sG (IntKind.i32.wrap b)).bind fun r=>
  some (!r))else some true).bind fun t=>
  (if(!t)then((iD s).bind fun r1=>
  (tt r1).bind fun r2=>
  some r2)else some true).bind fun t1=>
  if t1 then
  (some false)
  else
  (mW (Gb s))

def cu(f:(bw→Option Bool)):List bw→Nat→Option Int
 |[],i=>
  some (-1:Int)
 |e::tl,i=>
  (f e).bind fun r=>
  if r then
  (some (i:Int))
  else
  ((cu f tl) (i+1))

def ff(s:(List bw))(f:(bw→Option Bool)):Option Int:=
 cu f s 0

def eo(of:(bw→Option im))(name:im)(p:bw):Option Bool:=
 (of p).bind fun r=>
 some (r==name)

def iB(l:(List bw))(of:(bw→Option im))(name:im):Option (Int×Bool):=
 (ff l (eo of name)).bind fun r=>
 some ((max r (0:Int)),decide ((0:Int)≤r))

def fj(l:(List bw))(of:(bw→Option im)):List bw→Nat→Option Bool
  |[],i=>
    some true
  |e::tl,i=>
    (of e).bind fun r=>
    (iB l of r).bind fun r1=>
    (if(!(r1.1 !=(i:Int)))then((of e).bind fun r2=>
    (oM r2).bind fun r3=>
    some (!r3))else some true).bind fun t=>
    if t then
    (some false)
    else
    ((fj l of tl) (i+1))

def kx(l:(List bw))(of:(bw→Option im)):Option Bool:=
 fj l of l 0

def ew(c:bw):Option im:=
 some c.Name

def iH(kind:Int):Nat→Nat→Option im
 |0,i=>
  some ([])
 |k1+1,i=>
  (dR S6 (i:Int)).bind fun e1=>
  if(e1.kind==kind)then
  (some e1.word)
  else
  ((iH kind k1) (i+1))

def ql(kind:Int):Option im:=
 iH kind 3 0

def eR(t:bu):List Int→Nat→Bool→Option Int
  |[],i1,ok1=>
    if(!ok1)then
    (some (211:Int))
    else
    (some (0:Int))
  |e1::tl1,i1,ok1=>
    (if((ok1&&(decide ((0:Int)≤e1)))&&(decide (e1<(t.Columns.length:Int))))then((if(!((i1:Int)==(0:Int)))then((dR t.Keys (IntKind.i64.wrap ((i1:Int)-(1:Int)))).bind fun e2=>
    some (decide (e2<e1)))else some true).bind fun t3=>
    some t3)else some false).bind fun t2=>
    (eR t tl1) (i1+1) t2

def fO(t:bu):List bw→Bool→Option Int
  |[],ok=>
    eR t t.Keys 0 ok
  |e::tl,ok=>
    (if ok then((ql e.Kind).bind fun r2=>
    some (!(r2==([]))))else some false).bind fun t4=>
    (fO t tl) t4

def kV(t:bu):Option Int:=
  (oM t.Name).bind fun r=>
  (if((r&&(decide ((1:Int)≤(t.Columns.length:Int))))&&(decide ((t.Columns.length:Int)≤(4:Int))))then((kx t.Columns ew).bind fun r1=>
  some r1)else some false).bind fun t1=>
  fO t t.Columns t1

def jH(t:bu):Option Bool:=
 (kV t).bind fun r=>
 some (r !=(0:Int))

def bT(f:(bu→Option Bool)):List bu→Nat→Option Int
 |[],i=>
  some (-1:Int)
 |e::tl,i=>
  (f e).bind fun r=>
  if r then
  (some (i:Int))
  else
  ((bT f tl) (i+1))

def dn(s:(List bu))(f:(bu→Option Bool)):Option Int:=
 bT f s 0

def eZ(s:(List bu))(f:(bu→Option Bool)):Option Bool:=
 (dn s f).bind fun r=>
 some (decide ((0:Int)≤r))

def eI(of:(bu→Option im))(name:im)(p:bu):Option Bool:=
 (of p).bind fun r=>
 some (r==name)

def iW(l:(List bu))(of:(bu→Option im))(name:im):Option (Int×Bool):=
 (dn l (eI of name)).bind fun r=>
 some ((max r (0:Int)),decide ((0:Int)≤r))

def fH(l:(List bu))(of:(bu→Option im)):List bu→Nat→Option Bool
  |[],i=>
    some true
  |e::tl,i=>
    (of e).bind fun r=>
    (iW l of r).bind fun r1=>
    (if(!(r1.1 !=(i:Int)))then((of e).bind fun r2=>
    (oM r2).bind fun r3=>
    some (!r3))else some true).bind fun t=>
    if t then
    (some false)
    else
    ((fH l of tl) (i+1))

def kU(l:(List bu))(of:(bu→Option im)):Option Bool:=
 fH l of l 0

def eX(t:bu):Option im:=
 some t.Name

def lE(c:cn):Option Int:=
  (if(!(decide ((4:Int)<(c.Tables.length:Int))))then((eZ c.Tables jH).bind fun r=>
  some r)else some true).bind fun t=>
  (if(!t)then((kU c.Tables eX).bind fun r1=>
  some (!r1))else some true).bind fun t1=>
  if t1 then
  (some (210:Int))
  else
  (some (0:Int))

def iM(root:(List Int))(c:Int):Option Bool:=
  (if(!((decide (c<(0:Int)))||(decide ((root.length:Int)≤c))))then((dR root c).bind fun e=>
  some (e==(4:Int)))else some true).bind fun t=>
  some t

def cR(f:(aK→Option Bool)):List aK→Nat→Option Int
 |[],i=>
  some (-1:Int)
 |e::tl,i=>
  (f e).bind fun r=>
  if r then
  (some (i:Int))
  else
  ((cR f tl) (i+1))

def ec(s:(List aK))(f:(aK→Option Bool)):Option Int:=
 cR f s 0

def cS(s:(List aK))(f:(aK→Option Bool)):Option Bool:=
 (ec s f).bind fun r=>
 some (decide ((0:Int)≤r))

def dG(s2:(List bw))(eq:(Int→bw→Option Bool)):List Int→Nat→Option Bool
 |[],i=>
  some true
 |e::tl,i=>
  (dR s2 (i:Int)).bind fun e1=>
  (eq e e1).bind fun r=>
  if(!r)then
  (some false)
  else
  ((dG s2 eq tl) (i+1))

def fP(s1:(List Int))(s2:(List bw))(eq:(Int→bw→Option Bool)):Option Bool:=
 if((s1.length:Int) !=(s2.length:Int))then
 (some false)
 else
 (dG s2 eq s1 0)

def ow(k:Int)(c:bw):Option Bool:=
 some (k==c.Kind)

def iL(f:gJ)(p:(Option cj))(n:aK):Option Bool:=
  if(n.Op !=(1:Int))then
  (some false)
  else
  ((if(!(f.At !=(1:Int)))then((p).bind fun p1=>
  some (decide ((p1.c.Tables.length:Int)≤n.Table)))else some true).bind fun t=>
  if t then
  (some true)
  else
  ((p).bind fun p2=>
  (dR p2.c.Tables n.Table).bind fun e=>
  (fP n.Kinds e.Columns ow).bind fun r=>
  some (!r)))

def gw(p:(Option cj))(f:gJ)(root:(List Int)):Option Bool:=
  if((((((f.At !=(1:Int))&&(f.At !=(2:Int)))||(decide (f.Way<(1:Int))))||(decide ((4:Int)<f.Way)))||((f.Way==(1:Int)) !=(decide ((0:Int)<(f.Cols.length:Int)))))||(decide ((16:Int)<(f.Cols.length:Int))))then
  (some false)
  else
  ((ci f.Cols (iM root)).bind fun r=>
  if r then
  (some false)
  else
  ((cS f.Nodes (iL f p)).bind fun r1=>
  some (!r1)))

def je{Sg:Type}(from1:Int)(yld:(Int×Int)→Sg→Option (Bool×Sg))(nx:Nat→Sg→Option Sg)(i:Nat):List aK→Nat→Sg→Option Sg
  |[],i1,s2=>
    nx (i+1) s2
  |e4::tl1,i1,s2=>
    if((e4.Op==(9:Int))&&(e4.Table==from1))then
    ((yld ((i:Int),(i1:Int)) s2).bind fun r=>
    if(!r.1)then
    (some r.2)
    else
    ((je from1 yld nx i tl1) (i1+1) r.2))
    else
    ((je from1 yld nx i tl1) (i1+1) s2)

def jf{Sg:Type}(from1:Int)(yld:(Int×Int)→Sg→Option (Bool×Sg)):List gJ→Nat→Sg→Option Sg
 |[],i,s1=>
  some s1
 |e2::tl,i,s1=>
  je from1 yld (jf from1 yld tl) i e2.Nodes 0 s1

def sd{Sg:Type}(p:hJ)(from1:Int)(yld:(Int×Int)→Sg→Option (Bool×Sg))(s:Sg):Option Sg:=
 jf from1 yld p.Frags 0 s

def pu(p:hJ)(from1:Int):Option (It (Int×Int)):=
 some (fun _=>sd p from1)

def fb(s2:(List Int)):List Int→Nat→Option Bool
 |[],i=>
  some true
 |e::tl,i=>
  (dR s2 (i:Int)).bind fun e1=>
  if(e !=e1)then
  (some false)
  else
  ((fb s2 tl) (i+1))

def ga(s1:(List Int))(s2:(List Int)):Option Bool:=
 if((s1.length:Int) !=(s2.length:Int))then
 (some false)
 else
 (fb s2 s1 0)

def lS(p:(Option cj))(frag:Int):Option (List Int):=
 (p).bind fun p1=>
 (dR p1.kinds frag).bind fun e=>
 (dR e (IntKind.i64.wrap ((e.length:Int)-(1:Int)))).bind fun e1=>
 some e1

def js(p:(Option cj))(x:Int×Int)(one:Bool)(many:Int):Option (Bool×Int):=
 (p).bind fun p3=>
 (dR p3.Plan.Frags x.1).bind fun e2=>
 some ((e2.At==(2:Int)),(IntKind.i64.wrap (many+(1:Int))))

def dC(p:(Option cj))(at1:Int)(e:gJ):List aK→Option Bool
  |[]=>
    (p).bind fun p2=>
    (pu p2.Plan at1).bind fun it=>
    (it (Bool×Int) (Cm (fun x s=>js p x s.1 s.2)) (false,(0:Int))).bind fun(x1,x2)=>
    (p).bind fun p4=>
    if(at1==(IntKind.i64.wrap ((p4.Plan.Frags.length:Int)-(1:Int))))then
    ((if(((e.Way==(4:Int))&&(e.At==(2:Int)))&&(x2==(0:Int)))then((lS p at1).bind fun r=>
    (df r (4:Int)).bind fun r1=>
    some (!r1))else some false).bind fun t=>
    some t)
    else
    (some (((e.Way !=(4:Int))&&(x2==(1:Int)))&&((e.Way==(3:Int))==x1)))
  |e1::tl=>
    (if(e1.Op==(9:Int))then((if(!(decide (at1≤e1.Table)))then((lS p e1.Table).bind fun r2=>
    (ga e1.Kinds r2).bind fun r3=>
    some (!r3))else some true).bind fun t2=>
    some t2)else some false).bind fun t1=>
    if t1 then
    (some false)
    else
    ((dC p at1 e tl))

def kM(p:(Option cj))(at1:Int):Option Bool:=
 (p).bind fun p1=>
 (dR p1.Plan.Frags at1).bind fun e=>
 dC p at1 e e.Nodes

def lw(x:cj):List gJ→Nat→Option ((Option cj)×Int×Int×Int)
 |[],i1=>
  some ((some x),(0:Int),(0:Int),(0:Int))
 |e1::tl1,i1=>
  (kM (some x) (i1:Int)).bind fun r1=>
  if(!r1)then
  (some ((none:(Option cj)),(i1:Int),(0:Int),(290:Int)))
  else
  ((lw x tl1) (i1+1))

def jX(q:hJ):List gJ→Nat→cj→Option ((Option cj)×Int×Int×Int)
  |[],i,x=>
    lw x q.Frags 0
  |e::tl,i,x=>
    (jY e.Nodes).bind fun r2=>
    if(r2.2.2 !=(0:Int))then
    (some ((none:(Option cj)),(i:Int),r2.2.1,r2.2.2))
    else
    ((dR r2.1 (IntKind.i64.wrap ((r2.1.length:Int)-(1:Int)))).bind fun e2=>
    (gw (some x) e e2).bind fun r3=>
    if(!r3)then
    (some ((none:(Option cj)),(i:Int),(0:Int),(291:Int)))
    else
    ((kE x.kinds ([r2.1])).bind fun l1=>
    (jX q tl) (i+1) ({x with kinds:=l1}:cj)))

def oH(q:hJ)(c:cn):Option ((Option cj)×Int×Int×Int):=
  (lE c).bind fun r=>
  if(r !=(0:Int))then
  (some ((none:(Option cj)),(0:Int),(0:Int),r))
  else
  (if((decide ((q.Frags.length:Int)<(1:Int)))||(decide ((30:Int)<(q.Frags.length:Int))))then
  (some ((none:(Option cj)),(0:Int),(0:Int),(290:Int)))
  else
  (jX q q.Frags 0 ({(⟨q,c,[]⟩:cj)with kinds:=([]:List (List (List Int)))}:cj)))

def BE(p:hJ)(c:cn):Option (Int×Int×Int):=
 (oH p c).bind fun r=>
 some (r.2.1,r.2.2.1,r.2.2.2)

def ki(l:(Option cK)):Option bE:=
  (l).bind fun p=>
  (p.checker).bind fun p1=>
  (l).bind fun p2=>
  (dR p1.c.Tables p2.n.Table).bind fun e=>
  if(decide ((0:Int)<(e.Keys.length:Int)))then
  ((cD e.Keys).bind fun r=>
  some (⟨(2:Int),r⟩:bE))
  else
  (some (⟨(1:Int),[]⟩:bE))

def pH(l:(Option cK)):Option bE:=
  (l).bind fun p=>
  (p.checker).bind fun p1=>
  (l).bind fun p2=>
  (dR p1.Plan.Frags p2.n.Table).bind fun e=>
  if(e.Way==(1:Int))then
  ((cD e.Cols).bind fun r=>
  some (⟨(2:Int),r⟩:bE))
  else
  (some (⟨(3:Int),[]⟩:bE))

def pG(l:(Option cK)):Option bE:=
  (l).bind fun p=>
  (if(p.a_.Kind==(2:Int))then((l).bind fun p1=>
  some (p1.b.Kind==(2:Int)))else some false).bind fun t=>
  (if t then((l).bind fun p2=>
  (l).bind fun p3=>
  (ga p2.a_.Cols p3.b.Cols).bind fun r=>
  some r)else some false).bind fun t1=>
  if t1 then
  ((l).bind fun p4=>
  some p4.a_)
  else
  (some (⟨(1:Int),[]⟩:bE))

def mb(at1:(Int→Option Int)):List Int→(List Int)→bE→Option bE
  |[],cols,x=>
    some (⟨(2:Int),cols⟩:bE)
  |e::tl,cols,x=>
    (at1 e).bind fun r=>
    if(decide (r<(0:Int)))then
    (some (⟨(1:Int),[]⟩:bE))
    else
    ((kE cols ([r])).bind fun cols1=>
    (mb at1 tl) cols1 x)

def jR(p:bE)(at1:(Int→Option Int)):Option bE:=
 if(p.Kind !=(2:Int))then
 (some p)
 else
 (mb at1 p.Cols ([]:List Int) (⟨(0:Int),[]⟩:bE))

def de(f:(bf→Option Bool)):List bf→Nat→Option Int
 |[],i=>
  some (-1:Int)
 |e::tl,i=>
  (f e).bind fun r=>
  if r then
  (some (i:Int))
  else
  ((de f tl) (i+1))

def er(s:(List bf))(f:(bf→Option Bool)):Option Int:=
 de f s 0

def eL(c:Int)(e:bf):Option Bool:=
  (if((e.Nodes.length:Int)==(1:Int))then((dR e.Nodes (0:Int)).bind fun e1=>
  some (e1.Tag==(2:Int)))else some false).bind fun t=>
  (if t then((dR e.Nodes (0:Int)).bind fun e2=>
  some (e2.Col==c))else some false).bind fun t1=>
  some t1

def iK(l:(Option cK))(c:Int):Option Int:=
 (l).bind fun p=>
 (er p.n.Items (eL c)).bind fun r=>
 some r

def jP(l:(Option cK)):Option bE:=
 (l).bind fun p=>
 (jR p.a_ (iK l)).bind fun r=>
 some r

def jQ(l:(Option cK))(c:Int):Option Int:=
 (l).bind fun p=>
 (f9 p.n.Keys c).bind fun r=>
 some r

def fT(l:(Option cK)):Option bE:=
 (l).bind fun p=>
 (jR p.a_ (jQ l)).bind fun r=>
 some r

def fS(l:(Option cK)):Option bE:=
 (l).bind fun p=>
 some p.a_

def qW:Option (List (Int×((Option cK)→Option bE))):=
 some (fB (fB (fB (fB (fB (fB (fB (fB (fB (fB (fB ([]:List (Int×((Option cK)→Option bE))) (1:Int) ki) (9:Int) pH) (7:Int) pG) (5:Int) jP) (4:Int) fT) (10:Int) fT) (11:Int) fT) (3:Int) fS) (6:Int) fS) (8:Int) fS) (2:Int) fS)

def fN(nx:(List bE)→Option (List bE))(out:List bE)(x2:bE):Option (List bE):=
 (kE out ([x2])).bind fun out1=>
 nx out1

def jt(e:gJ)(r:(List (Int×((Option cK)→Option bE))))(nx:(List bE)→Option (List bE))(e1:aK)(out:List bE)(x1:cK):Option (List bE):=
  if(e.At==(1:Int))then
  ((((nV r e1.Op).getD (fun _=>none)) (some x1)).bind fun r1=>
  fN nx out r1)
  else
  (fN nx out (⟨(4:Int),[]⟩:bE))

def gO(e:gJ)(r:(List (Int×((Option cK)→Option bE))))(nx:(List bE)→Option (List bE))(e1:aK)(out:List bE)(x:cK):Option (List bE):=
  if(decide ((0:Int)≤e1.B))then
  ((dR out e1.B).bind fun e2=>
  jt e r nx e1 out (cK.mk x.checker x.n x.a_ e2))
  else
  (jt e r nx e1 out x)

def dj(p:(Option cj))(e:gJ)(r:(List (Int×((Option cK)→Option bE)))):List aK→(List bE)→Option (List bE)
  |[],out=>
    some out
  |e1::tl,out=>
    if(decide ((0:Int)≤e1.A))then
    ((dR out e1.A).bind fun e3=>
    gO e r (dj p e r tl) e1 out (cK.mk (⟨p,e1,(⟨(0:Int),[]⟩:bE),(⟨(0:Int),[]⟩:bE)⟩:cK).checker (⟨p,e1,(⟨(0:Int),[]⟩:bE),(⟨(0:Int),[]⟩:bE)⟩:cK).n e3 (⟨p,e1,(⟨(0:Int),[]⟩:bE),(⟨(0:Int),[]⟩:bE)⟩:cK).b))
    else
    (gO e r (dj p e r tl) e1 out (⟨p,e1,(⟨(0:Int),[]⟩:bE),(⟨(0:Int),[]⟩:bE)⟩:cK))

def kN(p:(Option cj))(frag:Int):Option (List bE):=
 (p).bind fun p1=>
 (dR p1.Plan.Frags frag).bind fun e=>
 (qW).bind fun r=>
 dj p e r e.Nodes ([]:List bE)

def uT(x:Int×Int)(x1:Bool)(x2:Int)(x3:Int):Option (Option Nat×(Bool×Int×Int)):=
 some (some 0,(true,x.2,x.1))

def uU(p:hJ)(from1:Int):Option (Int×Int×Bool):=
 (pu p from1).bind fun it=>
 ((itU it) (Option Nat×(Bool×Int×Int)) (Ed (fun x s=>uT x s.1 s.2.1 s.2.2)) (none,(false,(0:Int),(0:Int)))).bind fun r=>
 if r.1.1.isNone then
 (some ((0:Int),(0:Int),false))
 else
 (some (r.1.2.2.2,r.1.2.2.1,r.1.2.1))

def mR(place:Int)(n:aK):Option Bool:=
 some ((n.A==place)||(n.B==place))

def nS(p:(Option cj))(frag:Int):Option aK:=
  (p).bind fun p1=>
  (uU p1.Plan frag).bind fun r=>
  if(!r.2.2)then
  (some (⟨(0:Int),(0:Int),(0:Int),(0:Int),[],false,(⟨[]⟩:bf),[],[],[],[],(0:Int)⟩:aK))
  else
  ((p).bind fun p2=>
  (dR p2.Plan.Frags r.1).bind fun e=>
  (ec e.Nodes (mR r.2.1)).bind fun r1=>
  if(decide (r1<(0:Int)))then
  (some (⟨(0:Int),(0:Int),(0:Int),(0:Int),[],false,(⟨[]⟩:bf),[],[],[],[],(0:Int)⟩:aK))
  else
  ((p).bind fun p3=>
  (dR p3.Plan.Frags r.1).bind fun e1=>
  (dR e1.Nodes r1).bind fun e2=>
  some e2))

def dv(s2:(List jx))(eq:(jx→jx→Option Bool)):List jx→Nat→Option Bool
 |[],i=>
  some true
 |e::tl,i=>
  (dR s2 (i:Int)).bind fun e1=>
  (eq e e1).bind fun r=>
  if(!r)then
  (some false)
  else
  ((dv s2 eq tl) (i+1))

def fF(s1:(List jx))(s2:(List jx))(eq:(jx→jx→Option Bool)):Option Bool:=
 if((s1.length:Int) !=(s2.length:Int))then
 (some false)
 else
 (dv s2 eq s1 0)

def pw(p:jx)(y:jx):Option Bool:=
 some (p.Tag==y.Tag)

def eY(f:(bc→Option Bool)):List bc→Nat→Option Int
 |[],i=>
  some (-1:Int)
 |e::tl,i=>
  (f e).bind fun r=>
  if r then
  (some (i:Int))
  else
  ((eY f tl) (i+1))

def iJ(s:(List bc))(f:(bc→Option Bool)):Option Int:=
 eY f s 0

def g9(s:(List bc))(f:(bc→Option Bool)):Option Bool:=
 (iJ s f).bind fun r=>
 some (decide ((0:Int)≤r))

def Ab(n:bc):Option Bool:=
 (pM n.Tag).bind fun r=>
 some r

def D3(e:bf):Option Bool:=
  (mo e).bind fun r=>
  (if(r==(0:Int))then((g9 e.Nodes Ab).bind fun r1=>
  some (!r1))else some false).bind fun t=>
  some t

def gr(s:(List bc)):Option (List bc):=
 (kE ([]:List bc) s).bind fun x=>
 some x

def tJ(nx:(List bf)→(List Int)→Option (List bf))(out1:List bf)(open2:List Int):Option (List bf):=
 nx out1 open2

def tI(e3:Int)(nx1:Nat→bf→Option (List bf))(i:Nat)(part1:bf):Option (List bf):=
  (dR part1.Nodes (i:Int)).bind fun e6=>
  if(decide ((0:Int)≤e6.R))then
  ((some (part1.Nodes.set (i:Int).toNat ({e6 with R:=(IntKind.i64.wrap (e6.R-e3))}:bc))).bind fun st=>
  nx1 (i+1) ({part1 with Nodes:=st}:bf))
  else
  (nx1 (i+1) part1)

def nZ(nx:(List bf)→(List Int)→Option (List bf))(out:List bf)(y:List Int)(e3:Int):List bc→Nat→bf→Option (List bf)
  |[],i,part=>
    (kE out ([part])).bind fun out2=>
    tJ nx out2 y
  |e4::tl,i,part=>
    (dR part.Nodes (i:Int)).bind fun e5=>
    if(decide ((0:Int)≤e5.L))then
    ((some (part.Nodes.set (i:Int).toNat ({e5 with L:=(IntKind.i64.wrap (e5.L-e3))}:bc))).bind fun st1=>
    tI e3 (nZ nx out y e3 tl) i ({part with Nodes:=st1}:bf))
    else
    (tI e3 (nZ nx out y e3 tl) i part)

def kT(e:bf)(r:(List Int)×Bool):Nat→(List bf)→(List Int)→Option (List bf)
  |0,_,_=>none
  |n+1,out,open1=>
    if(decide ((0:Int)<(open1.length:Int)))then
    ((dR open1 (IntKind.i64.wrap ((open1.length:Int)-(1:Int)))).bind fun e1=>
    (dq open1 0 (IntKind.i64.wrap ((open1.length:Int)-(1:Int)))).bind fun y=>
    (dR e.Nodes e1).bind fun e2=>
    if(e2.Tag==(22:Int))then
    ((kE y ([e2.R,e2.L])).bind fun open3=>
    tJ (kT e r n) out open3)
    else
    ((dR r.1 e1).bind fun e3=>
    (dq e.Nodes e3 (IntKind.i64.wrap (e1+(1:Int)))).bind fun y1=>
    (gr y1).bind fun r1=>
    nZ (kT e r n) out y e3 r1 0 ({(⟨r1⟩:bf)with Nodes:=r1}:bf)))
    else
    (some out)

def D5(e:bf):Option (List bf):=
 (rJ e).bind fun r=>
 if(!r.2)then
 (some ([]:List bf))
 else
 (kT e r sR ([]:List bf) ([(IntKind.i64.wrap ((e.Nodes.length:Int)-(1:Int)))]))

def D4(e:bf)(left:Int):Option (Int×Int×Bool):=
  (mo e).bind fun r=>
  (if(!((r !=(0:Int))||((e.Nodes.length:Int) !=(3:Int))))then((dR e.Nodes (2:Int)).bind fun e1=>
  some (e1.Tag !=(16:Int)))else some true).bind fun t=>
  if t then
  (some ((0:Int),(0:Int),false))
  else
  ((dR e.Nodes (0:Int)).bind fun e2=>
  (dR e.Nodes (1:Int)).bind fun e3=>
  if((e2.Tag !=(2:Int))||(e3.Tag !=(2:Int)))then
  (some ((0:Int),(0:Int),false))
  else
  (if((decide (left≤(min e2.Col e3.Col)))||(decide ((max e2.Col e3.Col)<left)))then
  (some ((0:Int),(0:Int),false))
  else
  (some ((min e2.Col e3.Col),(IntKind.i64.wrap ((max e2.Col e3.Col)-left)),true))))

def qV(b:bE)(held:List ((Int×Int)×Bool)):List Int→Nat→Option Bool
 |[],i1=>
  some true
 |e1::tl1,i1=>
  (dR b.Cols (i1:Int)).bind fun e2=>
  if(!((nV held (k2 ([e1,e2]))).getD false))then
  (some false)
  else
  ((qV b held tl1) (i1+1))

def nR(a1:bE)(b:bE)(left:Int):List bf→(List ((Int×Int)×Bool))→Option Bool
 |[],held=>
  qV b held a1.Cols 0
 |e::tl,held=>
  (D4 e left).bind fun r2=>
  if r2.2.2 then
  ((nR a1 b left tl) (fB held (k2 ([r2.1,r2.2.1])) true))
  else
  ((nR a1 b left tl) held)

def zY(n:aK)(a1:bE)(b:bE)(left:Int):Option Bool:=
  if(b.Kind==(3:Int))then
  (some (a1.Kind !=(3:Int)))
  else
  ((if(!(((a1.Kind !=(2:Int))||(b.Kind !=(2:Int)))||((a1.Cols.length:Int) !=(b.Cols.length:Int))))then((D3 n.Cond).bind fun r=>
  some (!r))else some true).bind fun t=>
  if t then
  (some false)
  else
  ((D5 n.Cond).bind fun r1=>
  nR a1 b left r1 ([]:List ((Int×Int)×Bool))))

def qX(keys:(List Int))(c:Int):Option Bool:=
 (df keys c).bind fun r=>
 some (!r)

def xJ(a1:bE)(keys:(List Int)):Option Bool:=
  (if(a1.Kind==(2:Int))then((ci a1.Cols (qX keys)).bind fun r=>
  some (!r))else some false).bind fun t=>
  some t

def gL(s2:(List lN)):List lN→Nat→Option Bool
 |[],i=>
  some true
 |e::tl,i=>
  (dR s2 (i:Int)).bind fun e1=>
  if(!decide (e=e1))then
  (some false)
  else
  ((gL s2 tl) (i+1))

def lh(s1:(List lN))(s2:(List lN)):Option Bool:=
 if((s1.length:Int) !=(s2.length:Int))then
 (some false)
 else
 (gL s2 s1 0)

def lI(p:(Option cj))(frag:Int)(e:gJ)(e1:aK)(e2:bE)(x:Bool):Option Bool:=
  if x then
  ((xJ e2 e1.Keys).bind fun r1=>
  some r1)
  else
  (if(e1.Op==(6:Int))then
  (some (e2.Kind==(2:Int)))
  else
  (if(e1.Op==(10:Int))then
  (some (e2.Kind !=(3:Int)))
  else
  (if(e1.Op==(8:Int))then
  ((nS p frag).bind fun r2=>
  (if((((e2.Kind !=(3:Int))&&(e.Way==(3:Int)))&&(r2.Op==(8:Int)))&&(r2.Limit==e1.Limit))then((lh r2.Order e1.Order).bind fun r3=>
  some r3)else some false).bind fun t1=>
  some t1)
  else
  (some true))))

def lJ(p:(Option cj))(frag:Int)(l:(List bE))(e:gJ)(e1:aK):Option Bool:=
  if((e.At==(2:Int))||(decide (e1.A<(0:Int))))then
  (some true)
  else
  ((dR l e1.A).bind fun e2=>
  if(e1.Op==(2:Int))then
  ((dR l e1.B).bind fun e3=>
  (p).bind fun p2=>
  (dR p2.kinds frag).bind fun e4=>
  (dR e4 e1.A).bind fun e5=>
  (zY e1 e2 e3 (e5.length:Int)).bind fun r=>
  some r)
  else
  (if(e1.Op==(7:Int))then
  ((if(e2.Kind !=(3:Int))then((dR l e1.B).bind fun e6=>
  some (e6.Kind !=(3:Int)))else some false).bind fun t=>
  some t)
  else
  (if(e1.Op==(4:Int))then
  (lI p frag e e1 e2 (e1.Op==(4:Int)))
  else
  (lI p frag e e1 e2 (e1.Op==(11:Int))))))

def qY(p:(Option cj))(frag:Int)(at1:Int)(l:(List bE)):Option Bool:=
  (p).bind fun p1=>
  (dR p1.Plan.Frags frag).bind fun e=>
  (dR e.Nodes at1).bind fun e1=>
  if(e1.Op==(10:Int))then
  ((nS p frag).bind fun r4=>
  (fF e1.Aggs r4.Aggs pw).bind fun r5=>
  if(((r4.Op !=(11:Int))||(!r5))||((e1.Keys.length:Int) !=(r4.Keys.length:Int)))then
  (some false)
  else
  (lJ p frag l e e1))
  else
  (lJ p frag l e e1)

def pb(frag:Int)(place:Int):Option (Int×Int×Int):=
 if(decide ((0:Int)≤frag))then
 (some (frag,place,(280:Int)))
 else
 (some ((0:Int),(0:Int),(0:Int)))

def se(r:(Option cj)×Int×Int×Int)(nx:Nat→Int→Int→Option (Int×Int×Int))(i:Nat)(r1:(List bE)):List aK→Nat→Int→Int→Option (Int×Int×Int)
 |[],i1,frag2,place2=>
  (dR r1 (IntKind.i64.wrap ((r1.length:Int)-(1:Int)))).bind fun e2=>
  if(e2.Kind==(3:Int))then
  (pb (i:Int) (IntKind.i64.wrap ((r1.length:Int)-(1:Int))))
  else
  (nx (i+1) frag2 place2)
 |e1::tl1,i1,frag2,place2=>
  (qY r.1 (i:Int) (i1:Int) r1).bind fun r2=>
  if(!r2)then
  (pb (i:Int) (i1:Int))
  else
  ((se r nx i r1 tl1) (i1+1) frag2 place2)

def o9(r:(Option cj)×Int×Int×Int):List gJ→Nat→Int→Int→Option (Int×Int×Int)
 |[],i,frag1,place1=>
  pb frag1 place1
 |e::tl,i,frag1,place1=>
  (kN r.1 (i:Int)).bind fun r1=>
  se r (o9 r tl) i r1 e.Nodes 0 frag1 place1

def BD(q:hJ)(c:cn):Option (Int×Int×Int):=
 (oH q c).bind fun r=>
 if(r.2.2.2 !=(0:Int))then
 (some (r.2.1,r.2.2.1,r.2.2.2))
 else
 (o9 r q.Frags 0 (-1:Int) (0:Int))

def oI(q:hJ)(c:cn)(frag:Int):Option ((List bE)×Int):=
  (oH q c).bind fun r=>
  if(r.2.2.2 !=(0:Int))then
  (some ([],r.2.2.2))
  else
  (if((decide (frag<(0:Int)))||(decide ((q.Frags.length:Int)≤frag)))then
  (some ([],(2:Int)))
  else
  ((kN r.1 frag).bind fun r1=>
  some (r1,(0:Int))))

def z7:Option (cn×hJ):=
 some ((⟨[(⟨[116],[(⟨[97],(2:Int)⟩:bw),(⟨[98],(2:Int)⟩:bw)],[(0:Int)]⟩:bu)]⟩:cn),(⟨[(⟨[(⟨(1:Int),(-1:Int),(-1:Int),(0:Int),[(2:Int),(2:Int)],false,(⟨[]⟩:bf),[],[],[],[],(0:Int)⟩:aK),(⟨(6:Int),(0:Int),(-1:Int),(0:Int),[],false,(⟨[]⟩:bf),[],[],[],[],(0:Int)⟩:aK)],(1:Int),(3:Int),[]⟩:gJ),(⟨[(⟨(9:Int),(-1:Int),(-1:Int),(0:Int),[(2:Int),(2:Int)],false,(⟨[]⟩:bf),[],[],[],[],(0:Int)⟩:aK)],(2:Int),(4:Int),[]⟩:gJ)]⟩:hJ))

def u3:Option Bool:=
  (z7).bind fun r=>
  (BD r.2 r.1).bind fun r1=>
  (oI r.2 r.1 (0:Int)).bind fun r2=>
  (BE (⟨[]⟩:hJ) r.1).bind fun r3=>
  (uU r.2 (0:Int)).bind fun r4=>
  (if(((((((r1.2.2==(0:Int))&&(r2.2==(0:Int)))&&(r3.2.2==(290:Int)))&&r4.2.2)&&(r4.1==(1:Int)))&&(r4.2.1==(0:Int)))&&((r2.1.length:Int)==(2:Int)))then((dR r2.1 (1:Int)).bind fun e=>
  some (e.Kind==(2:Int)))else some false).bind fun t=>
  (if t then((dR r2.1 (1:Int)).bind fun e1=>
  some ((e1.Cols.length:Int)==(1:Int)))else some false).bind fun t1=>
  some t1

def Gj(c:Int):Option Bool:=
 some ((decide ((97:Int)≤c))&&(decide (c≤(122:Int))))

def uR(nx:(List Int)→Int→Option im)(out:List Int)(i:Int)(c1:Int):Option im:=
 (kE out ([c1])).bind fun out1=>
 nx out1 (IntKind.i64.wrap (i+(1:Int)))

def uQ(s:im):Nat→(List Int)→Int→Option im
  |0,_,_=>none
  |n+1,out,i=>
    if(decide (i<(s.length:Int)))then
    ((Ln s i).bind fun b=>
    (Gj b).bind fun r=>
    if r then
    (uR (uQ s n) out i (IntKind.u8.wrap ((IntKind.u8.wrap (b-(97:Int)))+(65:Int))))
    else
    (uR (uQ s n) out i b))
    else
    (some (Uv out))

def ma(x1:Bool):Option Int:=
 if x1 then
 (some (1:Int))
 else
 (some (-1:Int))

def uN(op:Int)(x:Bool):Option Int:=
  if x then
  (some (2:Int))
  else
  (if(op==(3:Int))then
  (ma (op==(3:Int)))
  else
  (if(op==(4:Int))then
  (ma (op==(4:Int)))
  else
  (if(op==(5:Int))then
  (ma (op==(5:Int)))
  else
  (if(op==(6:Int))then
  (ma (op==(6:Int)))
  else
  (ma (op==(8:Int)))))))

def zW(op:Int):Option Int:=
  if(op==(1:Int))then
  (some (0:Int))
  else
  (if(op==(2:Int))then
  (uN op (op==(2:Int)))
  else
  (uN op (op==(7:Int))))

def uG(op:Int)(x:Bool):Option Int:=
  if x then
  (some (1:Int))
  else
  ((zW op).bind fun r=>
  some r)

def Gd(op:Int):Option Int:=
  if(op==(9:Int))then
  (some (0:Int))
  else
  (if(op==(10:Int))then
  (uG op (op==(10:Int)))
  else
  (uG op (op==(11:Int))))

def qe:Nat→(List aK)→Int→Option Int
  |0,_,_=>none
  |fu+1,l,at1=>
    if((decide (at1<(0:Int)))||(decide ((l.length:Int)≤at1)))then
    (some (0:Int))
    else
    ((dR l at1).bind fun e=>
    (Gd e.Op).bind fun r=>
    if(r==(0:Int))then
    (if((e.A==(-1:Int))&&(e.B==(-1:Int)))then
    (some (1:Int))
    else
    (some (0:Int)))
    else
    (if(r==(1:Int))then
    (((qe fu) l (IntKind.i64.wrap (at1-(1:Int)))).bind fun r1=>
    if(((e.A==(IntKind.i64.wrap (at1-(1:Int))))&&(e.B==(-1:Int)))&&(decide ((0:Int)<r1)))then
    (some (IntKind.i64.wrap (r1+(1:Int))))
    else
    (some (0:Int)))
    else
    (if(r==(2:Int))then
    (((qe fu) l (IntKind.i64.wrap (at1-(1:Int)))).bind fun r2=>
    if(((r2==(0:Int))||(e.B !=(IntKind.i64.wrap (at1-(1:Int)))))||(e.A !=(IntKind.i64.wrap ((IntKind.i64.wrap (at1-(1:Int)))-r2))))then
    (some (0:Int))
    else
    (((qe fu) l e.A).bind fun r3=>
    if(decide ((0:Int)<r3))then
    (some (IntKind.i64.wrap ((IntKind.i64.wrap (r3+r2))+(1:Int))))
    else
    (some (0:Int))))
    else
    (some (0:Int)))))

def sD(n:aK):Option Bool:=
  if((n.Op !=(1:Int))&&((n.Table !=(0:Int))||(decide ((0:Int)<(n.Kinds.length:Int)))))then
  (some false)
  else
  (if(((n.Op !=(2:Int))&&n.Left)||(((n.Op !=(2:Int))&&(n.Op !=(3:Int)))&&(decide ((0:Int)<(n.Cond.Nodes.length:Int)))))then
  (some false)
  else
  (if(((n.Op !=(4:Int))&&((decide ((0:Int)<(n.Keys.length:Int)))||(decide ((0:Int)<(n.Aggs.length:Int)))))||((n.Op !=(5:Int))&&(decide ((0:Int)<(n.Items.length:Int)))))then
  (some false)
  else
  (some ((n.Op==(8:Int))||(((n.Order.length:Int)==(0:Int))&&(n.Limit==(0:Int)))))))

def tk(n:aK)(x:Bool):Option Bool:=
  if x then
  ((sD (aK.mk (4:Int) n.A n.B n.Table n.Kinds n.Left n.Cond n.Keys n.Aggs n.Items n.Order n.Limit)).bind fun r1=>
  some r1)
  else
  ((sD n).bind fun r2=>
  some r2)

def Dy(n:aK):Option Bool:=
  if(n.Op==(9:Int))then
  ((sD (aK.mk (1:Int) n.A n.B n.Table n.Kinds n.Left n.Cond n.Keys n.Aggs n.Items n.Order n.Limit)).bind fun r=>
  some r)
  else
  (if(n.Op==(10:Int))then
  (tk n (n.Op==(10:Int)))
  else
  (tk n (n.Op==(11:Int))))

def sa(nx1:bf→Option bf)(out1:bf)(n1:bc):Option bf:=
 (kE out1.Nodes ([n1])).bind fun l5=>
 nx1 ({out1 with Nodes:=l5}:bf)

def sb(out:bf)(nx1:bf→Option bf)(out1:bf)(n:bc):Option bf:=
 if(decide ((0:Int)≤n.R))then
 (sa nx1 out1 (bc.mk n.Tag n.L (IntKind.i64.wrap (n.R+(out.Nodes.length:Int))) n.Col n.Value))
 else
 (sa nx1 out1 n)

def lu(nx:Nat→bc→bf→Option bf)(i:Nat)(root1:bc)(out:bf):List bc→bf→Option bf
 |[],out1=>
  if((i:Int)==(0:Int))then
  (nx (i+1) (bc.mk root1.Tag (IntKind.i64.wrap ((out1.Nodes.length:Int)-(1:Int))) root1.R root1.Col root1.Value) out1)
  else
  (nx (i+1) (bc.mk root1.Tag root1.L (IntKind.i64.wrap ((out1.Nodes.length:Int)-(1:Int))) root1.Col root1.Value) out1)
 |e1::tl1,out1=>
  if(decide ((0:Int)≤e1.L))then
  (sb out (lu nx i root1 out tl1) out1 (bc.mk e1.Tag (IntKind.i64.wrap (e1.L+(out.Nodes.length:Int))) e1.R e1.Col e1.Value))
  else
  (sb out (lu nx i root1 out tl1) out1 e1)

def lv:List bf→Nat→bc→bf→Option bf
 |[],i,root1,out=>
  (kE out.Nodes ([root1])).bind fun l2=>
  some ({out with Nodes:=l2}:bf)
 |e::tl,i,root1,out=>
  lu (lv tl) i root1 out e.Nodes out

def wT(root:bc)(l:(List bf)):Option bf:=
 lv l 0 (bc.mk root.Tag (-1:Int) (-1:Int) root.Col root.Value) ({(⟨[]⟩:bf)with Nodes:=([]:List bc)}:bf)

def nQ:Nat→vt→Int→Option Int
  |0,_,_=>none
  |fu+1,l,at1=>
    if((decide (at1<(0:Int)))||(decide ((l.Nodes.length:Int)≤at1)))then
    (some (0:Int))
    else
    ((dR l.Nodes at1).bind fun e=>
    (zW e.Op).bind fun r=>
    if(r==(0:Int))then
    (if((e.A==(-1:Int))&&(e.B==(-1:Int)))then
    (some (1:Int))
    else
    (some (0:Int)))
    else
    (if(r==(1:Int))then
    (if((e.A==(IntKind.i64.wrap (at1-(1:Int))))&&(e.B==(-1:Int)))then
    (((nQ fu) l e.A).bind fun r1=>
    if(decide ((0:Int)<r1))then
    (some (IntKind.i64.wrap (r1+(1:Int))))
    else
    (some (0:Int)))
    else
    (some (0:Int)))
    else
    (if(r==(2:Int))then
    (if(e.B==(IntKind.i64.wrap (at1-(1:Int))))then
    (((nQ fu) l e.B).bind fun r2=>
    if((decide ((0:Int)<r2))&&(e.A==(IntKind.i64.wrap (e.B-r2))))then
    (((nQ fu) l e.A).bind fun r3=>
    if(decide ((0:Int)<r3))then
    (some (IntKind.i64.wrap ((IntKind.i64.wrap (r3+r2))+(1:Int))))
    else
    (some (0:Int)))
    else
    (some (0:Int)))
    else
    (some (0:Int)))
    else
    (some (0:Int)))))

def HX(l:vt)(at1:Int):Option Int:=
 nQ sR l at1

def Gi(tag:Int):Option Int:=
  if((decide (tag<(1:Int)))||(decide ((23:Int)<tag)))then
  (some (-1:Int))
  else
  (if(decide (tag≤(3:Int)))then
  (some (0:Int))
  else
  (if(decide (tag≤(11:Int)))then
  (some (1:Int))
  else
  (some (2:Int))))

def Gh(tag:Int):Option Int:=
  if((tag==(3:Int))||((decide ((8:Int)≤tag))&&(decide (tag≤(11:Int)))))then
  (some (-1:Int))
  else
  ((Gi tag).bind fun r=>
  some r)

def jO(v:M):Option Bool:=
  if(v.Kind==(0:Int))then
  (some (decide (v=(⟨(0:Int),(0:Int),(0:Int),[]⟩:M))))
  else
  (if(v.Kind==(1:Int))then
  (some (((v.U==(0:Int))&&(v.S==([])))&&((v.N==(0:Int))||(v.N==(1:Int)))))
  else
  (if(v.Kind==(2:Int))then
  (some ((v.U==(0:Int))&&(v.S==([]))))
  else
  (if(v.Kind==(3:Int))then
  (some (((v.N==(0:Int))&&(v.U==(0:Int)))&&(decide ((v.S.length:Int)≤(40:Int)))))
  else
  (some ((v.Kind==(4:Int))&&(v.S==([])))))))

def uS(v:M):Option Bool:=
 (jO v).bind fun r=>
 some (r&&(v.Kind !=(4:Int)))

def kK(n:bc):Option Bool:=
  if(n.Tag==(1:Int))then
  ((uS n.Value).bind fun r=>
  some (r&&(n.Col==(0:Int))))
  else
  (if(n.Tag==(2:Int))then
  (some (((decide (n.Value=(⟨(0:Int),(0:Int),(0:Int),[]⟩:M)))&&(decide ((0:Int)≤n.Col)))&&(decide (n.Col<(16:Int)))))
  else
  (some ((decide (n.Value=(⟨(0:Int),(0:Int),(0:Int),[]⟩:M)))&&(n.Col==(0:Int)))))

def tm:Nat→bf→Int→Option Int
  |0,_,_=>none
  |fu+1,e,place=>
    if((decide (place<(0:Int)))||(decide ((e.Nodes.length:Int)≤place)))then
    (some (0:Int))
    else
    ((dR e.Nodes place).bind fun e1=>
    (Gh e1.Tag).bind fun r=>
    (if(!(decide (r<(0:Int))))then((kK e1).bind fun r1=>
    some (!r1))else some true).bind fun t=>
    if t then
    (some (0:Int))
    else
    (if(r==(0:Int))then
    (if((e1.L !=(-1:Int))||(e1.R !=(-1:Int)))then
    (some (0:Int))
    else
    (some (1:Int)))
    else
    (((tm fu) e (IntKind.i64.wrap (place-(1:Int)))).bind fun r2=>
    if(r2==(0:Int))then
    (some (0:Int))
    else
    (if(r==(1:Int))then
    (if((e1.L !=(IntKind.i64.wrap (place-(1:Int))))||(e1.R !=(-1:Int)))then
    (some (0:Int))
    else
    (some (IntKind.i64.wrap (r2+(1:Int)))))
    else
    (((tm fu) e (IntKind.i64.wrap ((IntKind.i64.wrap (place-(1:Int)))-r2))).bind fun r3=>
    if(((r3==(0:Int))||(e1.R !=(IntKind.i64.wrap (place-(1:Int)))))||(e1.L !=(IntKind.i64.wrap ((IntKind.i64.wrap (place-(1:Int)))-r2))))then
    (some (0:Int))
    else
    (some (IntKind.i64.wrap ((IntKind.i64.wrap (r3+r2))+(1:Int)))))))))

def HY(e:bf)(place:Int):Option Int:=
 tm sR e place

def Gg(e:bf):Option Bool:=
  (if((decide ((1:Int)≤(e.Nodes.length:Int)))&&(decide ((e.Nodes.length:Int)≤(1000:Int))))then((HY e (IntKind.i64.wrap ((e.Nodes.length:Int)-(1:Int)))).bind fun r=>
  some (r==(e.Nodes.length:Int)))else some false).bind fun t=>
  some t

def qR(k:Int)(want:Int):Option Bool:=
 some ((k==want)||(k==(0:Int)))

def wS(tag:Int)(l:Int)(r:Int):Option (Int×Bool):=
  if((tag==(4:Int))||((decide ((12:Int)≤tag))&&(decide (tag≤(15:Int)))))then
  ((qR l (2:Int)).bind fun r1=>
  (if r1 then((qR r (2:Int)).bind fun r2=>
  some r2)else some false).bind fun t=>
  some ((2:Int),t))
  else
  (if((tag==(5:Int))||(decide ((22:Int)≤tag)))then
  ((qR l (1:Int)).bind fun r3=>
  (if r3 then((qR r (1:Int)).bind fun r4=>
  some r4)else some false).bind fun t1=>
  some ((1:Int),t1))
  else
  (if((tag==(6:Int))||(tag==(7:Int)))then
  (some ((1:Int),true))
  else
  (some ((1:Int),(((l==r)||(l==(0:Int)))||(r==(0:Int)))))))

def ww(nx2:(List Int)→Option (Int×Int))(e3:bc)(own:List Int)(e6:Int)(r1:Int):Option (Int×Int):=
  (wS e3.Tag e6 r1).bind fun r2=>
  if(!r2.2)then
  (some ((0:Int),(201:Int)))
  else
  ((kE own ([r2.1])).bind fun own3=>
  nx2 own3)

def mV(kinds:(List Int)):List bc→(List Int)→Option (Int×Int)
  |[],own=>
    (dR own (IntKind.i64.wrap ((own.length:Int)-(1:Int)))).bind fun e4=>
    some (e4,(0:Int))
  |e3::tl2,own=>
    if(e3.Tag==(1:Int))then
    ((kE own ([e3.Value.Kind])).bind fun own1=>
    (mV kinds tl2) own1)
    else
    (if(e3.Tag==(2:Int))then
    ((dR kinds e3.Col).bind fun e5=>
    (kE own ([e5])).bind fun own2=>
    (mV kinds tl2) own2)
    else
    ((dR own e3.L).bind fun e6=>
    if(decide ((0:Int)≤e3.R))then
    ((dR own e3.R).bind fun e7=>
    ww (mV kinds tl2) e3 own e6 e7)
    else
    (ww (mV kinds tl2) e3 own e6 (0:Int))))

def wu(e:bf)(kinds:(List Int)):List bc→Option (Int×Int)
 |[]=>
  mV kinds e.Nodes ([]:List Int)
 |e2::tl1=>
  if((e2.Tag==(2:Int))&&(decide ((kinds.length:Int)≤e2.Col)))then
  (some ((0:Int),(2:Int)))
  else
  ((wu e kinds tl1))

def wv(e:bf)(kinds:(List Int)):List Int→Option (Int×Int)
 |[]=>
  wu e kinds e.Nodes
 |e1::tl=>
  if((decide (e1<(0:Int)))||(decide ((3:Int)<e1)))then
  (some ((0:Int),(2:Int)))
  else
  ((wv e kinds tl))

def wU(e:bf)(kinds:(List Int)):Option (Int×Int):=
 (Gg e).bind fun r=>
 if(!r)then
 (some ((0:Int),(200:Int)))
 else
 (wv e kinds kinds)

def zU(e:bf)(kinds:(List Int)):Option Bool:=
 (wU e kinds).bind fun r=>
 some ((r.2==(0:Int))&&((r.1==(0:Int))||(r.1==(1:Int))))

def AE(a1:jx)(kinds:(List Int)):Option (Int×Bool):=
  if(a1.Tag==(1:Int))then
  (some ((2:Int),((a1.Arg.Nodes.length:Int)==(0:Int))))
  else
  ((wU a1.Arg kinds).bind fun r=>
  if(((decide (a1.Tag<(1:Int)))||(decide ((5:Int)<a1.Tag)))||(r.2 !=(0:Int)))then
  (some ((0:Int),false))
  else
  (if(((a1.Tag==(3:Int))&&(r.1 !=(2:Int)))&&(r.1 !=(0:Int)))then
  (some ((0:Int),false))
  else
  (if(decide ((4:Int)≤a1.Tag))then
  (some (r.1,true))
  else
  (some ((2:Int),true)))))

def uL(n:aK):Nat→Bool→Int→Option ((List Int)×Bool)
  |0,_,_=>none
  |n1+1,ok,i=>
    if(decide (i<(n.Kinds.length:Int)))then
    ((if ok then((dR n.Kinds i).bind fun e=>
    some (decide ((1:Int)≤e)))else some false).bind fun t=>
    (if t then((dR n.Kinds i).bind fun e1=>
    some (decide (e1≤(3:Int))))else some false).bind fun t1=>
    (uL n n1) t1 (IntKind.i64.wrap (i+(1:Int))))
    else
    (some (n.Kinds,((((ok&&(decide ((0:Int)≤n.Table)))&&(decide (n.Table≤(3:Int))))&&(decide ((1:Int)≤(n.Kinds.length:Int))))&&(decide ((n.Kinds.length:Int)≤(4:Int))))))

def uJ(n:aK)(a1:(List Int)):Nat→(List Int)→Bool→Int→Option ((List Int)×Bool)
  |0,_,_,_=>none
  |n3+1,out3,ok1,i2=>
    if(decide (i2<(n.Aggs.length:Int)))then
    ((dR n.Aggs i2).bind fun e4=>
    (AE e4 a1).bind fun r2=>
    (kE out3 ([r2.1])).bind fun out4=>
    (uJ n a1 n3) out4 (ok1&&r2.2) (IntKind.i64.wrap (i2+(1:Int))))
    else
    (some (out3,(((ok1&&(decide ((n.Keys.length:Int)≤(3:Int))))&&(decide ((n.Aggs.length:Int)≤(12:Int))))&&(decide ((0:Int)<(out3.length:Int))))))

def uK(n:aK)(a1:(List Int)):Nat→(List Int)→Int→Option ((List Int)×Bool)
  |0,_,_=>none
  |n2+1,out1,i1=>
    if(decide (i1<(n.Keys.length:Int)))then
    ((dR n.Keys i1).bind fun e2=>
    if((decide (e2<(0:Int)))||(decide ((a1.length:Int)≤e2)))then
    (some ([],false))
    else
    ((dR a1 e2).bind fun e3=>
    (kE out1 ([e3])).bind fun out2=>
    (uK n a1 n2) out2 (IntKind.i64.wrap (i1+(1:Int)))))
    else
    (uJ n a1 sR out1 true (0:Int))

def uI(n:aK)(a1:(List Int)):Nat→(List Int)→Bool→Int→Option ((List Int)×Bool)
  |0,_,_,_=>none
  |n4+1,out5,ok2,i3=>
    if(decide (i3<(n.Items.length:Int)))then
    ((dR n.Items i3).bind fun e5=>
    (wU e5 a1).bind fun r3=>
    (kE out5 ([r3.1])).bind fun out6=>
    (uI n a1 n4) out6 (ok2&&(r3.2==(0:Int))) (IntKind.i64.wrap (i3+(1:Int))))
    else
    (some (out5,((ok2&&(decide ((1:Int)≤(out5.length:Int))))&&(decide ((out5.length:Int)≤(16:Int))))))

def uM(b:(List Int))(nx4:Nat→(List Int)→Bool→Option ((List Int)×Bool))(i4:Nat)(out7:List Int)(ok3:Bool)(k:Int):Option ((List Int)×Bool):=
  (kE out7 ([k])).bind fun out8=>
  (if ok3 then((dR b (i4:Int)).bind fun e7=>
  (if(!(e7==k))then((dR b (i4:Int)).bind fun e8=>
  some (e8==(0:Int)))else some true).bind fun t3=>
  some t3)else some false).bind fun t2=>
  nx4 (i4+1) out8 t2

def qQ(b:(List Int)):List Int→Nat→(List Int)→Bool→Option ((List Int)×Bool)
  |[],i4,out7,ok3=>
    some (out7,ok3)
  |e6::tl,i4,out7,ok3=>
    if(e6==(0:Int))then
    ((dR b (i4:Int)).bind fun e9=>
    uM b (qQ b tl) i4 out7 ok3 e9)
    else
    (uM b (qQ b tl) i4 out7 ok3 e6)

def uH(n:aK)(a1:(List Int)):Nat→Bool→Int→Option ((List Int)×Bool)
  |0,_,_=>none
  |n5+1,ok4,i5=>
    if(decide (i5<(n.Order.length:Int)))then
    ((if ok4 then((dR n.Order i5).bind fun e10=>
    some (decide ((0:Int)≤e10.Col)))else some false).bind fun t4=>
    (if t4 then((dR n.Order i5).bind fun e11=>
    some (decide (e11.Col<(a1.length:Int))))else some false).bind fun t5=>
    (uH n a1 n5) t5 (IntKind.i64.wrap (i5+(1:Int))))
    else
    (some (a1,(((ok4&&(decide ((n.Order.length:Int)≤(3:Int))))&&(decide ((-1:Int)≤n.Limit)))&&(decide (n.Limit≤(2147483647:Int))))))

def Ge(n:aK)(a1:(List Int))(b:(List Int)):Option ((List Int)×Bool):=
  if(n.Op==(1:Int))then
  (uL n sR true (0:Int))
  else
  (if(n.Op==(2:Int))then
  ((kE ([]:List Int) a1).bind fun l=>
  (kE l b).bind fun out=>
  (zU n.Cond out).bind fun r=>
  some (out,r))
  else
  (if(n.Op==(3:Int))then
  ((zU n.Cond a1).bind fun r1=>
  some (a1,r1))
  else
  (if(n.Op==(4:Int))then
  (uK n a1 sR ([]:List Int) (0:Int))
  else
  (if(n.Op==(5:Int))then
  (uI n a1 sR ([]:List Int) true (0:Int))
  else
  (if(n.Op==(6:Int))then
  (some (a1,true))
  else
  (if(n.Op==(7:Int))then
  (if((a1.length:Int) !=(b.length:Int))then
  (some ([],false))
  else
  (qQ b a1 0 ([]:List Int) true))
  else
  (uH n a1 sR true (0:Int))))))))

def uO(l:vt)(at1:Int)(e1:aK)(a1:(List Int))(b1:(List Int)):Option ((List Int)×Bool):=
 (Ge e1 a1 b1).bind fun r2=>
 if(((e1.Op==(8:Int))&&(at1 !=(IntKind.i64.wrap ((l.Nodes.length:Int)-(1:Int)))))||(decide ((16:Int)<(r2.1.length:Int))))then
 (some ([],false))
 else
 (some (r2.1,r2.2))

def uP(self__:vt→Int→Option ((List Int)×Bool))(l:vt)(at1:Int)(e1:aK)(a1:(List Int)):Option ((List Int)×Bool):=
  if(decide ((0:Int)≤e1.B))then
  ((self__ l e1.B).bind fun r3=>
  if(!r3.2)then
  (some ([],false))
  else
  (uO l at1 e1 a1 r3.1))
  else
  (uO l at1 e1 a1 ([]))

def o4:Nat→vt→Int→Option ((List Int)×Bool)
  |0,_,_=>none
  |fu+1,l,at1=>
    (HX l at1).bind fun r=>
    (if(!(r==(0:Int)))then((dR l.Nodes at1).bind fun e=>
    (sD e).bind fun r1=>
    some (!r1))else some true).bind fun t=>
    if t then
    (some ([],false))
    else
    ((dR l.Nodes at1).bind fun e1=>
    if(decide ((0:Int)≤e1.A))then
    (((o4 fu) l e1.A).bind fun r4=>
    if(!r4.2)then
    (some ([],false))
    else
    (uP (o4 fu) l at1 e1 r4.1))
    else
    (uP (o4 fu) l at1 e1 ([])))

def si(l:(List aK))(kinds:(List Int)):Option hJ:=
 some (⟨[(⟨l,(1:Int),(3:Int),[]⟩:gJ),(⟨[(⟨(9:Int),(-1:Int),(-1:Int),(0:Int),kinds,false,(⟨[]⟩:bf),[],[],[],[],(0:Int)⟩:aK)],(2:Int),(4:Int),[]⟩:gJ)]⟩:hJ)

def vf(kinds:(List Int))(nx:Option Bool):List M→Nat→Option Bool
  |[],i1=>
    nx
  |e1::tl1,i1=>
    (jL e1).bind fun r=>
    (if(!(r !=(0:Int)))then((if(e1.Kind !=(0:Int))then((dR kinds (i1:Int)).bind fun e2=>
    some (e1.Kind !=e2))else some false).bind fun t1=>
    some t1)else some true).bind fun t=>
    if t then
    (some false)
    else
    ((vf kinds nx tl1) (i1+1))

def vg(kinds:(List Int)):List (List M)→Option Bool
 |[]=>
  some true
 |e::tl=>
  if((e.length:Int) !=(kinds.length:Int))then
  (some false)
  else
  (vf kinds (vg kinds tl) e 0)

def GY(rows:(List (List M)))(kinds:(List Int)):Option Bool:=
 if(decide ((12:Int)<(rows.length:Int)))then
 (some false)
 else
 (vg kinds rows)

def pT(b:Kh)(nx:Nat→Option Int)(i:Nat):List bw→(List Int)→Option Int
 |[],kinds=>
  (dR b.Tables (i:Int)).bind fun e2=>
  (GY e2 kinds).bind fun r1=>
  if(!r1)then
  (some (250:Int))
  else
  (nx (i+1))
 |e1::tl1,kinds=>
  (kE kinds ([e1.Kind])).bind fun kinds1=>
  (pT b nx i tl1) kinds1

def pU(b:Kh):List bu→Nat→Option Int
 |[],i=>
  some (0:Int)
 |e::tl,i=>
  pT b (pU b tl) i e.Columns ([]:List Int)

def zp(c:cn)(b:Kh):Option Int:=
  (lE c).bind fun r=>
  if(r !=(0:Int))then
  (some r)
  else
  (if((b.Tables.length:Int) !=(c.Tables.length:Int))then
  (some (250:Int))
  else
  (pU b c.Tables 0))

def H3(t:bu)(r:(List M)):Option Bool:=
 (zp (⟨[t]⟩:cn) (⟨[[r]]⟩:Kh)).bind fun r1=>
 some (r1==(0:Int))

def pq(v:M):Option Bool:=
 (jL v).bind fun r=>
 some (r !=(0:Int))

def cE(f:(M→Option Bool)):List M→Nat→Option Int
 |[],i=>
  some (-1:Int)
 |e::tl,i=>
  (f e).bind fun r=>
  if r then
  (some (i:Int))
  else
  ((cE f tl) (i+1))

def jk(s:(List M))(f:(M→Option Bool)):Option Int:=
 cE f s 0

def fv(s:(List M))(f:(M→Option Bool)):Option Bool:=
 (jk s f).bind fun r=>
 some (decide ((0:Int)≤r))

def vC(r:(List M)):Option Bool:=
  (if(decide ((r.length:Int)≤(16:Int)))then((fv r pq).bind fun r1=>
  some (!r1))else some false).bind fun t=>
  some t

def nP(nx:Int→Option Int)(e:(List (List M)))(n:Int):List (List M)→Option Int
 |[]=>
  nx (max n (e.length:Int))
 |e1::tl1=>
  (vC e1).bind fun r=>
  if(!r)then
  (some (150:Int))
  else
  ((nP nx e n tl1))

def jN:List (List (List M))→Int→Option Int
 |[],n=>
  if(decide ((8000:Int)<n))then
  (some (3:Int))
  else
  (some (0:Int))
 |e::tl,n=>
  nP (jN tl) e n e

def y6(l:(List (List (List M)))):Option Int:=
 jN l (0:Int)

def ry(c:Int):Option Bool:=
 some (decide (c<(0:Int)))

def vD(r:(List M))(c:Int):Option Bool:=
 some ((decide (c<(0:Int)))||(decide ((r.length:Int)≤c)))

def AQ(r:(List M))(columns:(List Int)):Option Bool:=
  (if(decide ((columns.length:Int)≤(16:Int)))then((ci columns (vD r)).bind fun r1=>
  some (!r1))else some false).bind fun t=>
  some t

def qd(columns:(List Int)):List (List M)→Option Int
 |[]=>
  some (0:Int)
 |e::tl=>
  (AQ e columns).bind fun r2=>
  if(!r2)then
  (some (2:Int))
  else
  ((qd columns tl))

def vE(l:(List (List M)))(columns:(List Int)):Option Int:=
  (y6 ([l])).bind fun r=>
  if(r !=(0:Int))then
  (some r)
  else
  ((if(!(decide ((16:Int)<(columns.length:Int))))then((ci columns ry).bind fun r1=>
  some r1)else some true).bind fun t=>
  if t then
  (some (2:Int))
  else
  (qd columns l))

def nr(r:(List M)):List Int→(List M)→Option (List M)
 |[],out=>
  some out
 |e::tl,out=>
  (dR r e).bind fun e1=>
  (kE out ([e1])).bind fun out1=>
  (nr r tl) out1

def uF(r:(List M))(columns:(List Int)):Option (List M):=
 nr r columns ([]:List M)

def xG(r:(List M))(columns:(List Int)):Option ((List M)×Int):=
  (vE ([r]) columns).bind fun r1=>
  if(r1 !=(0:Int))then
  (some ([],r1))
  else
  ((uF r columns).bind fun r2=>
  some (r2,(0:Int)))

def lr(n:Int):Nat→(List Int)→Int→Option (List Int)
  |0,_,_=>none
  |n1+1,b1,i=>
    if(decide ((0:Int)≤i))then
    ((Xi i).bind fun u=>
    (kE b1 ([(IntKind.u8.wrap ((n).fdiv (2^(min (Int.toNat i) IntKind.u64.bits))))])).bind fun b2=>
    (lr n n1) b2 (IntKind.i64.wrap (i-(8:Int))))
    else
    (some b1)

def tg(b:(List Int))(n:Int):Option (List Int):=
 lr n sR b (56:Int)

def s8(nx1:Int→(List Int)→Option (List Int))(n2:Int):Nat→Int→(List Int)→Option (List Int)
  |0,_,_=>none
  |n4+1,x,out2=>
    if(decide (x<n2))then
    ((dR out2 n2).bind fun e4=>
    (dR out2 x).bind fun e5=>
    (dR out2 (IntKind.i64.wrap (n2+x))).bind fun e6=>
    (some (out2.set (IntKind.i64.wrap (n2+x)).toNat (gM .xor .u32 e4 e5))).bind fun ar3=>
    (s8 nx1 n2 n4) (IntKind.i64.wrap (x+(1:Int))) ar3)
    else
    (nx1 (IntKind.i64.wrap (n2*(2:Int))) out2)

def p9:Nat→Int→(List Int)→Option (List Int)
 |0,_,_=>none
 |n3+1,n2,out1=>
  if(decide (n2<(256:Int)))then
  (s8 (p9 n3) n2 sR (0:Int) out1)
  else
  (some out1)

def qa:Nat→Int→(List Int)→Option (List Int)
  |0,_,_=>none
  |n1+1,n,out=>
    if(decide ((0:Int)<n))then
    ((dR out (IntKind.i64.wrap ((2:Int)*n))).bind fun e1=>
    (dR out n).bind fun e2=>
    (some (out.set n.toNat ((e1).fdiv (2^(min (Int.toNat (1:Int)) IntKind.u32.bits))))).bind fun ar1=>
    if((gM .and .u32 e1 (1:Int))==(1:Int))then
    ((dR ar1 n).bind fun e3=>
    (some (ar1.set n.toNat (gM .xor .u32 e3 (2197175160:Int)))).bind fun ar2=>
    (qa n1) (IntKind.i64.wrap ((n).tdiv (2:Int))) ar2)
    else
    ((qa n1) (IntKind.i64.wrap ((n).tdiv (2:Int))) ar1))
    else
    (p9 sR (2:Int) out)

def yV:Option (List Int):=
 (dR (List.replicate 256 (0:Int)) (128:Int)).bind fun e=>
 (some ((List.replicate 256 (0:Int)).set (128:Int).toNat (2197175160:Int))).bind fun ar=>
 qa sR (64:Int) ar

def rt(register:Int)(lO:(List Int))(c:Int):Option Int:=
 (dR lO (gM .xor .u8 (IntKind.u8.wrap register) c)).bind fun e=>
 some (gM .xor .u32 ((register).fdiv (2^(min (Int.toNat (8:Int)) IntKind.u32.bits))) e)

def mw(r:(List Int)):List Int→Int→Option Int
 |[],register=>
  some (gM .xor .u32 (if IntKind.u32.signed then -1 else IntKind.u32.max) register)
 |e::tl,register=>
  (rt register r e).bind fun r1=>
  (mw r tl) r1

def vw(b:(List Int)):Option Int:=
 (yV).bind fun r=>
 mw r b (4294967295:Int)

def nt:List M→(List Int)→Option Int
 |[],b=>
  (vw b).bind fun r1=>
  some r1
 |e::tl,b=>
  (kE b ([(IntKind.u8.wrap e.Kind)])).bind fun b2=>
  (tg b2 (IntKind.u64.wrap e.N)).bind fun r2=>
  (tg r2 e.U).bind fun r3=>
  (kE r3 ([(IntKind.u8.wrap (e.S.length:Int))])).bind fun l3=>
  (kE l3 (n9 e.S)).bind fun b3=>
  (nt tl) b3

def xE(r:(List M)):Option Int:=
 nt r ([]:List Int)

def mU(r:(List M))(columns:(List Int)):Option (Int×Int):=
  (xG r columns).bind fun r1=>
  if(r1.2 !=(0:Int))then
  (some ((0:Int),r1.2))
  else
  ((xE r1.1).bind fun r2=>
  some (r2,(0:Int)))

def H2(t:bu)(r:(List M))(nodes:Int):Option Int:=
  if((t.Keys.length:Int)==(0:Int))then
  (some (0:Int))
  else
  ((mU r t.Keys).bind fun r1=>
  (nz (IntKind.u32.wrap nodes)).bind fun _=>
  some (IntKind.i64.wrap ((IntKind.i64.wrap ((r1.1).tmod (IntKind.u32.wrap nodes)))+(1:Int))))

def Gp(c:cn)(lO:Int)(r:(List M))(nodes:Int):Option (Int×Int):=
  (lE c).bind fun r1=>
  if(r1 !=(0:Int))then
  (some ((0:Int),r1))
  else
  ((if(!((((decide (lO<(0:Int)))||(decide ((c.Tables.length:Int)≤lO)))||(decide (nodes<(1:Int))))||(decide ((8:Int)<nodes))))then((dR c.Tables lO).bind fun e=>
  (H3 e r).bind fun r2=>
  some (!r2))else some true).bind fun t=>
  if t then
  (some ((0:Int),(2:Int)))
  else
  ((dR c.Tables lO).bind fun e1=>
  (H2 e1 r nodes).bind fun r3=>
  some (r3,(0:Int))))

def q8(nx1:Nat→Option Bool)(i1:Nat):Option Bool:=
 nx1 (i1+1)

def q7(nx3:Int→Option Bool)(n:Int):Option Bool:=
 nx3 (IntKind.i64.wrap (n+(1:Int)))

def nf(lO:Int)(r1:cn)(r3:(List bE)×Int)(nx1:Nat→Option Bool)(i1:Nat)(r5:List M):Nat→Int→Option Bool
  |0,_=>none
  |n1+1,n=>
    if(decide (n≤(8:Int)))then
    ((Gp r1 (IntKind.i64.wrap (((IntKind.u64.wrap lO)).tmod (IntKind.u64.wrap (r1.Tables.length:Int)))) r5 n).bind fun r6=>
    if(r6.2 !=(0:Int))then
    (q8 nx1 i1)
    else
    ((dR r3.1 (0:Int)).bind fun e4=>
    if(e4.Kind !=(2:Int))then
    (if((r6.1 !=(0:Int))||(e4.Kind !=(1:Int)))then
    (some false)
    else
    (q7 (nf lO r1 r3 nx1 i1 r5 n1) n))
    else
    ((mU r5 e4.Cols).bind fun r7=>
    (if(!(r7.2 !=(0:Int)))then((nz (IntKind.u32.wrap n)).bind fun _=>
    some (r6.1 !=(IntKind.i64.wrap ((IntKind.i64.wrap ((r7.1).tmod (IntKind.u32.wrap n)))+(1:Int)))))else some true).bind fun t=>
    if t then
    (some false)
    else
    (q7 (nf lO r1 r3 nx1 i1 r5 n1) n))))
    else
    (q8 nx1 i1)

def wX(lO:Int)(r1:cn)(r3:(List bE)×Int)(nx1:Nat→Option Bool)(i1:Nat):Nat→Nat→(List M)→Option Bool
 |0,i2,r5=>
  nf lO r1 r3 nx1 i1 r5 sR (1:Int)
 |k1+1,i2,r5=>
  (dR r5 (i2:Int)).bind fun e5=>
  (dq e5.S 0 (min (e5.S.length:Int) (41:Int))).bind fun y=>
  (some (r5.set (i2:Int).toNat ({e5 with S:=y}:M))).bind fun st=>
  (wX lO r1 r3 nx1 i1 k1) (i2+1) st

def zd(n:Int):Option bf:=
 (wT (⟨(2:Int),(0:Int),(0:Int),n,(⟨(0:Int),(0:Int),(0:Int),[]⟩:M)⟩:bc) ([])).bind fun r=>
 some r

def Dz(n:Int):Option M:=
 some (⟨(2:Int),n,(0:Int),[]⟩:M)

def zc(n:Int):Option bf:=
 (Dz n).bind fun r=>
 (wT (⟨(1:Int),(0:Int),(0:Int),(0:Int),r⟩:bc) ([])).bind fun r1=>
 some r1

def qn(n:Int):Option M:=
 some (⟨(2:Int),n,(0:Int),[]⟩:M)

def j3(do1:(M→M→Option (M×Int)))(a1:M)(b:M):Option (M×Int):=
 (do1 b a1).bind fun r=>
 some (r.1,r.2)

def Aa(do1:(M→M→Option (M×Int))):Option (M→M→Option (M×Int)):=
 some (j3 do1)

def rU(v:M):Option M:=
 some v

def qH(b:Bool):Option M:=
 if b then
 (rU (M.mk (⟨(1:Int),(0:Int),(0:Int),[]⟩:M).Kind (1:Int) (⟨(1:Int),(0:Int),(0:Int),[]⟩:M).U (⟨(1:Int),(0:Int),(0:Int),[]⟩:M).S))
 else
 (rU (⟨(1:Int),(0:Int),(0:Int),[]⟩:M))

def io:List M→Option Int
 |[]=>
  some (0:Int)
 |e::tl=>
  (jL e).bind fun r=>
  if(r !=(0:Int))then
  (some r)
  else
  ((io tl))

def nm(l:(List M)):Option Int:=
 io l

def qF:Option M:=
 some (⟨(0:Int),(0:Int),(0:Int),[]⟩:M)

def j4:List Int→Option Int
 |[]=>
  some (0:Int)
 |e::tl=>
  if(e !=(0:Int))then
  (some e)
  else
  ((j4 tl))

def xc(vals:(List Int)):Option Int:=
 j4 vals

def pj(p:Int):Option Bool:=
 some (p !=p)

def pN(p:Int)(y:Int):Option Int:=
  (pj p).bind fun r=>
  (pj y).bind fun r1=>
  if r then
  (if r1 then
  (some (0:Int))
  else
  (some (-1:Int)))
  else
  (if r1 then
  (some (1:Int))
  else
  (if(decide (p<y))then
  (some (-1:Int))
  else
  (if(decide (y<p))then
  (some (1:Int))
  else
  (some (0:Int)))))

def m6(p:Int):Option Bool:=
 some (p !=p)

def n7(p:Int)(y:Int):Option Int:=
  (m6 p).bind fun r=>
  (m6 y).bind fun r1=>
  if r then
  (if r1 then
  (some (0:Int))
  else
  (some (-1:Int)))
  else
  (if r1 then
  (some (1:Int))
  else
  (if(decide (p<y))then
  (some (-1:Int))
  else
  (if(decide (y<p))then
  (some (1:Int))
  else
  (some (0:Int)))))

def gW(a1:im)(b:im):Option Int:=
 some (QT a1 b)

def pE(a1:im)(b:im):Option Int:=
 (gW a1 b).bind fun r=>
 some r

def lq(a1:M)(b:M):Option Int:=
  (kB a1).bind fun r=>
  (if(!(!r))then((kB b).bind fun r1=>
  some (!r1))else some true).bind fun t=>
  if t then
  (some (0:Int))
  else
  ((pN a1.Kind b.Kind).bind fun r2=>
  (n7 a1.N b.N).bind fun r3=>
  (pE a1.S b.S).bind fun r4=>
  (xc ([r2,r3,r4])).bind fun r5=>
  some r5)

def oz(a1:M)(b:M)(is1:(Int→Option Bool)):Option (M×Int):=
  (nm ([a1,b])).bind fun r=>
  if(r !=(0:Int))then
  (some ((⟨(0:Int),(0:Int),(0:Int),[]⟩:M),r))
  else
  (if(((a1.Kind==(4:Int))||(b.Kind==(4:Int)))||((!((a1.Kind==(0:Int))||(b.Kind==(0:Int))))&&(a1.Kind !=b.Kind)))then
  (some ((⟨(0:Int),(0:Int),(0:Int),[]⟩:M),(2:Int)))
  else
  (if((a1.Kind==(0:Int))||(b.Kind==(0:Int)))then
  ((qF).bind fun r1=>
  some (r1,(0:Int)))
  else
  ((lq a1 b).bind fun r2=>
  (is1 r2).bind fun r3=>
  (qH r3).bind fun r4=>
  some (r4,(0:Int)))))

def xw(c:Int):Option Bool:=
 some (decide (c<(0:Int)))

def lY(a1:M)(b:M):Option (M×Int):=
 (oz a1 b xw).bind fun r=>
 some (r.1,r.2)

def kQ(do1:(M→Option (M×Int)))(a1:M)(x:M):Option (M×Int):=
 (do1 a1).bind fun r=>
 some (r.1,r.2)

def xa(do1:(M→Option (M×Int))):Option (M→M→Option (M×Int)):=
 some (kQ do1)

def kX(kind:Int):List M→Int→Option Int
  |[],e=>
    some e
  |e1::tl,e=>
    (jL e1).bind fun r=>
    if(r !=(0:Int))then
    (some (120:Int))
    else
    (if((e1.Kind !=(0:Int))&&(e1.Kind !=kind))then
    ((kX kind tl) (2:Int))
    else
    ((kX kind tl) e))

def zu(kind:Int)(l:(List M)):Option Int:=
 kX kind l (0:Int)

def pz(a1:M)(b:M)(to1:(Int→Int→Option (Int×Bool))):Option (M×Int):=
  (zu (2:Int) ([a1,b])).bind fun r=>
  if(r !=(0:Int))then
  (some ((⟨(0:Int),(0:Int),(0:Int),[]⟩:M),r))
  else
  (if((a1.Kind==(0:Int))||(b.Kind==(0:Int)))then
  ((qF).bind fun r1=>
  some (r1,(0:Int)))
  else
  ((to1 a1.N b.N).bind fun r2=>
  if(!r2.2)then
  (some ((⟨(0:Int),(0:Int),(0:Int),[]⟩:M),(140:Int)))
  else
  ((qn r2.1).bind fun r3=>
  some (r3,(0:Int)))))

def nB(a1:Int)(b:Int):Option (Int×Bool):=
 some ((IntKind.i64.wrap (a1-b)),decide ((0:Int)≤(gM .and .i64 (gM .xor .i64 a1 b) (gM .xor .i64 a1 (IntKind.i64.wrap (a1-b))))))

def sJ(a1:M)(b:M):Option (M×Int):=
 (pz a1 b nB).bind fun r=>
 some (r.1,r.2)

def vW(a1:M):Option (M×Int):=
 (qn (0:Int)).bind fun r=>
 (sJ r a1).bind fun r1=>
 some (r1.1,r1.2)

def ur(v:M):Option Int:=
 if(v.Kind==(0:Int))then
 (some (1:Int))
 else
 (some (IntKind.i64.wrap ((2:Int)*v.N)))

def ke(to1:((List Int)→Option Int)):List M→(List Int)→M→Option (M×Int)
  |[],n,x=>
    (to1 n).bind fun r1=>
    (dR XD r1).bind fun e1=>
    some (e1,(0:Int))
  |e::tl,n,x=>
    if(decide ((1:Int)<e.Kind))then
    (some ((⟨(0:Int),(0:Int),(0:Int),[]⟩:M),(2:Int)))
    else
    ((ur e).bind fun r2=>
    (kE n ([r2])).bind fun n1=>
    (ke to1 tl) n1 x)

def lX(to1:((List Int)→Option Int))(l:(List M)):Option (M×Int):=
 (nm l).bind fun r=>
 if(r !=(0:Int))then
 (some ((⟨(0:Int),(0:Int),(0:Int),[]⟩:M),r))
 else
 (ke to1 l ([]:List Int) (⟨(0:Int),(0:Int),(0:Int),[]⟩:M))

def zO(l:(List Int)):Option Int:=
 (dR l (0:Int)).bind fun e=>
 some (IntKind.i64.wrap ((2:Int)-e))

def oA(a1:M):Option (M×Int):=
 (lX zO ([a1])).bind fun r=>
 some (r.1,r.2)

def mn(is1:Bool)(a1:M)(x:M):Option (M×Int):=
 (qH ((a1.Kind==(0:Int))==is1)).bind fun r=>
 some (r,(0:Int))

def zk(is1:Bool):Option (M→M→Option (M×Int)):=
 some (mn is1)

def pA(a1:Int)(b:Int):Option (Int×Bool):=
 some ((IntKind.i64.wrap (a1+b)),decide ((0:Int)≤(gM .and .i64 (gM .xor .i64 a1 (IntKind.i64.wrap (a1+b))) (gM .xor .i64 b (IntKind.i64.wrap (a1+b))))))

def zy(a1:M)(b:M):Option (M×Int):=
 (pz a1 b pA).bind fun r=>
 some (r.1,r.2)

def pJ(p:Int)(y:Int):Option (Int×Int):=
 some ((IntKind.u64.wrap ((IntKind.u64.wrap ((IntKind.u64.wrap (((p).fdiv (2^(min (Int.toNat (32:Int)) IntKind.u64.bits)))*((y).fdiv (2^(min (Int.toNat (32:Int)) IntKind.u64.bits)))))+(((IntKind.u64.wrap ((IntKind.u64.wrap (((p).fdiv (2^(min (Int.toNat (32:Int)) IntKind.u64.bits)))*(gM .and .u64 y (4294967295:Int))))+(((IntKind.u64.wrap ((gM .and .u64 p (4294967295:Int))*(gM .and .u64 y (4294967295:Int))))).fdiv (2^(min (Int.toNat (32:Int)) IntKind.u64.bits)))))).fdiv (2^(min (Int.toNat (32:Int)) IntKind.u64.bits)))))+(((IntKind.u64.wrap ((gM .and .u64 (IntKind.u64.wrap ((IntKind.u64.wrap (((p).fdiv (2^(min (Int.toNat (32:Int)) IntKind.u64.bits)))*(gM .and .u64 y (4294967295:Int))))+(((IntKind.u64.wrap ((gM .and .u64 p (4294967295:Int))*(gM .and .u64 y (4294967295:Int))))).fdiv (2^(min (Int.toNat (32:Int)) IntKind.u64.bits))))) (4294967295:Int))+(IntKind.u64.wrap ((gM .and .u64 p (4294967295:Int))*((y).fdiv (2^(min (Int.toNat (32:Int)) IntKind.u64.bits)))))))).fdiv (2^(min (Int.toNat (32:Int)) IntKind.u64.bits))))),(IntKind.u64.wrap (p*y)))

def nk(n:Int):Option Int:=
 if(decide (n<(0:Int)))then
 (some (IntKind.u64.wrap (0-(IntKind.u64.wrap n))))
 else
 (some (IntKind.u64.wrap n))

def oa(u:Int)(below:Bool):Option (Int×Bool):=
 if below then
 (some ((IntKind.i64.wrap (IntKind.u64.wrap (0-u))),decide (u≤(9223372036854775808:Int))))
 else
 (some ((IntKind.i64.wrap u),decide (u≤(9223372036854775807:Int))))

def nC(a1:Int)(b:Int):Option (Int×Bool):=
 (nk a1).bind fun r=>
 (nk b).bind fun r1=>
 (pJ r r1).bind fun r2=>
 (oa r2.2 ((decide (a1<(0:Int))) !=(decide (b<(0:Int))))).bind fun r3=>
 some (r3.1,(r3.2&&(r2.1==(0:Int))))

def zw(a1:M)(b:M):Option (M×Int):=
 (pz a1 b nC).bind fun r=>
 some (r.1,r.2)

def nD(a1:Int)(b:Int):Option (Int×Bool):=
  if(b==(0:Int))then
  (some ((0:Int),false))
  else
  ((nk a1).bind fun r=>
  (nk b).bind fun r1=>
  (nz r1).bind fun _=>
  (oa (IntKind.u64.wrap ((r).tdiv r1)) ((decide (a1<(0:Int))) !=(decide (b<(0:Int))))).bind fun r2=>
  some (r2.1,r2.2))

def zx(a1:M)(b:M):Option (M×Int):=
 (pz a1 b nD).bind fun r=>
 some (r.1,r.2)

def wm(c:Int):Option Bool:=
 some (c==(0:Int))

def pn(a1:M)(b:M):Option (M×Int):=
 (oz a1 b wm).bind fun r=>
 some (r.1,r.2)

def rh(do1:(M→M→Option (M×Int)))(a1:M)(b:M):Option (M×Int):=
  (do1 a1 b).bind fun r=>
  if(r.2 !=(0:Int))then
  (some (r.1,r.2))
  else
  ((oA r.1).bind fun r1=>
  some (r1.1,r1.2))

def yg(do1:(M→M→Option (M×Int))):Option (M→M→Option (M×Int)):=
 some (rh do1)

def zP(l:(List Int)):Option Int:=
 (dR l (0:Int)).bind fun e=>
 (dR l (1:Int)).bind fun e1=>
 some (min e e1)

def qo(a1:M)(b:M):Option (M×Int):=
 (lX zP ([a1,b])).bind fun r=>
 some (r.1,r.2)

def Bm(l:(List Int)):Option Int:=
 (dR l (0:Int)).bind fun e=>
 (dR l (1:Int)).bind fun e1=>
 some (max e e1)

def sy(a1:M)(b:M):Option (M×Int):=
 (lX Bm ([a1,b])).bind fun r=>
 some (r.1,r.2)

def vT:Option (List (Int×(M→M→Option (M×Int)))):=
 (Aa lY).bind fun r=>
 (xa vW).bind fun r1=>
 (xa oA).bind fun r2=>
 (zk true).bind fun r3=>
 (zk false).bind fun r4=>
 (yg pn).bind fun r5=>
 (yg r).bind fun r6=>
 (yg lY).bind fun r7=>
 some (fB (fB (fB (fB (fB (fB (fB (fB (fB (fB (fB (fB (fB (fB (fB (fB ([]:List (Int×(M→M→Option (M×Int)))) (4:Int) r1) (5:Int) r2) (6:Int) r3) (7:Int) r4) (12:Int) zy) (13:Int) sJ) (14:Int) zw) (15:Int) zx) (16:Int) pn) (17:Int) r5) (18:Int) lY) (20:Int) r) (19:Int) r6) (21:Int) r7) (22:Int) qo) (23:Int) sy)

def eT(s:(List M)):Option (List M):=
 (kE ([]:List M) s).bind fun x=>
 some x

def jw(stack:(List M))(k:Int):Option ((List M)×(List M)):=
 (dq stack (IntKind.i64.wrap ((stack.length:Int)-k)) (stack.length:Int)).bind fun y=>
 (eT y).bind fun r=>
 (dq stack 0 (IntKind.i64.wrap ((stack.length:Int)-k))).bind fun y1=>
 some (r,y1)

def fC(bad:Int)(stack:List M):Option (M×Int):=
  if(bad !=(0:Int))then
  (some ((⟨(0:Int),(0:Int),(0:Int),[]⟩:M),bad))
  else
  ((dR stack (0:Int)).bind fun e1=>
  some (e1,(0:Int)))

def dr(do1:(bc→(List M)→Option (M×Int))):List bc→Int→(List M)→Option (M×Int)
  |[],bad1,stack1=>
    fC bad1 stack1
  |e2::tl,bad1,stack1=>
    (nj e2.Tag).bind fun r=>
    (jw stack1 r).bind fun r1=>
    (do1 e2 r1.1).bind fun r2=>
    if(r2.2 !=(0:Int))then
    (fC r2.2 r1.2)
    else
    ((kE r1.2 ([r2.1])).bind fun l2=>
    (dr do1 tl) bad1 l2)

def gF(e:bf)(do1:(bc→(List M)→Option (M×Int))):Option (M×Int):=
 dr do1 e.Nodes (0:Int) ([]:List M)

def nY(r1:M×Int)(no:Int):Option (M×Int):=
 some (r1.1,no)

def gI(r:(List M))(do1:(List (Int×(M→M→Option (M×Int)))))(n:bc)(l:(List M)):Option (M×Int):=
  if(n.Tag==(1:Int))then
  (some (n.Value,(0:Int)))
  else
  (if(n.Tag==(2:Int))then
  ((dR r n.Col).bind fun e=>
  some (e,(0:Int)))
  else
  ((dR l (0:Int)).bind fun e1=>
  (dR l (IntKind.i64.wrap ((l.length:Int)-(1:Int)))).bind fun e2=>
  (((nV do1 n.Tag).getD (fun _ _=>none)) e1 e2).bind fun r1=>
  if((r1.2 !=(0:Int))&&(r1.2 !=(140:Int)))then
  (nY r1 (201:Int))
  else
  (nY r1 r1.2)))

def mF(e:bf)(r:(List M)):List Int→M→Option (M×Int)
  |[],x=>
    (vT).bind fun r3=>
    (gF e (gI r r3)).bind fun r4=>
    some (r4.1,r4.2)
  |e1::tl,x=>
    (if(!(decide ((r.length:Int)≤e1)))then((dR r e1).bind fun e2=>
    (kB e2).bind fun r5=>
    some (!r5))else some true).bind fun t=>
    if t then
    (some ((⟨(0:Int),(0:Int),(0:Int),[]⟩:M),(2:Int)))
    else
    ((mF e r tl) x)

def sH(e:bf)(r:(List M)):Option (M×Int):=
  (mo e).bind fun r1=>
  if(r1 !=(0:Int))then
  (some ((⟨(0:Int),(0:Int),(0:Int),[]⟩:M),r1))
  else
  ((qt e).bind fun r2=>
  mF e r r2 (⟨(0:Int),(0:Int),(0:Int),[]⟩:M))

def lM(nx2:Nat→Option Bool)(i2:Nat):Option Bool:=
 nx2 (i2+1)

def lL(nx2:Nat→Option Bool)(i2:Nat):Option Bool:=
 lM nx2 i2

def eQ(r2:(List bE)×Int)(e5:bE)(nx4:Nat→Option Bool)(i5:Nat)(r3:List M)(s:List M):Option Bool:=
 (dR r2.1 (0:Int)).bind fun e8=>
 (mU r3 e8.Cols).bind fun r4=>
 (mU s e5.Cols).bind fun r5=>
 if(((r4.2 !=(0:Int))||(r5.2 !=(0:Int)))||(r4.1 !=r5.1))then
 (some false)
 else
 (nx4 (i5+1))

def ea(r2:(List bE)×Int)(e5:bE)(nx4:Nat→Option Bool)(i5:Nat)(r3:List M):List Int→(List M)→Option Bool
 |[],s1=>
  eQ r2 e5 nx4 i5 r3 s1
 |e9::tl2,s1=>
  (dR r3 e9).bind fun e10=>
  (kE s1 ([e10])).bind fun s2=>
  (ea r2 e5 nx4 i5 r3 tl2) s2

def d9(r2:(List bE)×Int)(e5:bE)(nx4:Nat→Option Bool)(i5:Nat)(r3:List M):List bf→(List M)→Option Bool
  |[],s3=>
    eQ r2 e5 nx4 i5 r3 s3
  |e11::tl3,s3=>
    (sH e11 r3).bind fun r6=>
    if(r6.2 !=(0:Int))then
    (some false)
    else
    ((kE s3 ([r6.1])).bind fun s4=>
    (d9 r2 e5 nx4 i5 r3 tl3) s4)

def eP(e3:aK)(r2:(List bE)×Int)(e5:bE)(nx4:Nat→Option Bool)(i5:Nat)(e6:(List Int)):Nat→Nat→(List M)→Option Bool
 |0,i6,r3=>
  if(e3.Op==(4:Int))then
  (ea r2 e5 nx4 i5 r3 e3.Keys ([]:List M))
  else
  (d9 r2 e5 nx4 i5 r3 e3.Items ([]:List M))
 |k7+1,i6,r3=>
  (dR e6 (i6:Int)).bind fun e12=>
  (qn e12).bind fun r7=>
  (kE r3 ([r7])).bind fun r8=>
  (eP e3 r2 e5 nx4 i5 e6 k7) (i6+1) r8

def dD(nx2:Nat→Option Bool)(i2:Nat)(e3:aK)(r2:(List bE)×Int)(e5:bE):List (List Int)→Nat→Option Bool
 |[],i5=>
  lL nx2 i2
 |e6::tl1,i5=>
  if((i5:Int)==(8:Int))then
  (lL nx2 i2)
  else
  (eP e3 r2 e5 (dD nx2 i2 e3 r2 e5 tl1) i5 e6 4 0 ([]:List M))

def eb(rows:(List (List Int)))(t1:bu)(nx2:Nat→Option Bool)(i2:Nat)(e3:aK):Nat→Nat→(List Int)→Option Bool
  |0,i4,own1=>
    (si ([(⟨(1:Int),(-1:Int),(-1:Int),(0:Int),[(2:Int),(2:Int),(2:Int),(2:Int)],false,(⟨[]⟩:bf),[],[],[],[],(0:Int)⟩:aK),e3]) own1).bind fun r1=>
    (oI r1 (⟨[t1]⟩:cn) (0:Int)).bind fun r2=>
    if((r2.2 !=(0:Int))||((r2.1.length:Int) !=(2:Int)))then
    (some false)
    else
    ((dR r2.1 (1:Int)).bind fun e5=>
    if(e5.Kind !=(2:Int))then
    (lM nx2 i2)
    else
    (dD nx2 i2 e3 r2 e5 rows 0))
  |k5+1,i4,own1=>
    (dR own1 (i4:Int)).bind fun e13=>
    (some (own1.set (i4:Int).toNat (2:Int))).bind fun st=>
    (eb rows t1 nx2 i2 e3 k5) (i4+1) st

def gP(rows:(List (List Int)))(t1:bu)(nx2:Nat→Option Bool)(i2:Nat)(e3:aK)(own:List Int):Option Bool:=
 eb rows t1 nx2 i2 e3 own.length 0 own

def bW(rows:(List (List Int)))(t1:bu)(group:aK)(project:aK):Nat→Nat→Option Bool
  |0,i2=>
    some true
  |k3+1,i2=>
    (dR ([project,group]) (i2:Int)).bind fun e3=>
    (mP (project.Items.length:Int) (0:Int)).bind fun mk=>
    if(e3.Op==(4:Int))then
    ((mP (group.Keys.length:Int) (0:Int)).bind fun mk1=>
    gP rows t1 (bW rows t1 group project k3) i2 e3 mk1)
    else
    (gP rows t1 (bW rows t1 group project k3) i2 e3 mk)

def gQ(rows:(List (List Int)))(t1:bu)(group:aK)(project:aK):Option Bool:=
 if(((project.Items.length:Int)==(0:Int))||((group.Keys.length:Int)==(0:Int)))then
 (some true)
 else
 (bW rows t1 group project 2 0)

def eO(rows:(List (List Int)))(t1:bu):List Int→Nat→aK→aK→Option Bool
  |[],i10,project1,group1=>
    gQ rows t1 group1 project1
  |e14::tl4,i10,project1,group1=>
    if((i10:Int)==(6:Int))then
    (gQ rows t1 group1 project1)
    else
    (if((decide ((0:Int)≤e14))&&(decide (e14<(4:Int))))then
    ((zd e14).bind fun r9=>
    (kE project1.Items ([r9])).bind fun l16=>
    if(decide ((group1.Keys.length:Int)<(3:Int)))then
    ((kE group1.Keys ([e14])).bind fun l18=>
    (eO rows t1 tl4) (i10+1) ({project1 with Items:=l16}:aK) ({group1 with Keys:=l18}:aK))
    else
    ((eO rows t1 tl4) (i10+1) ({project1 with Items:=l16}:aK) group1))
    else
    ((zc e14).bind fun r10=>
    (kE project1.Items ([r10])).bind fun l20=>
    (eO rows t1 tl4) (i10+1) ({project1 with Items:=l20}:aK) group1))

def lK(nx1:Nat→bu→Option Bool)(i1:Nat)(t2:bu):Option Bool:=
 nx1 (i1+1) t2

def gy(nx1:Nat→bu→Option Bool)(i1:Nat):List Int→bu→Option Bool
  |[],t3=>
    lK nx1 i1 t3
  |e15::tl5,t3=>
    if(e15==(i1:Int))then
    ((kE t3.Keys ([(i1:Int)])).bind fun l26=>
    lK nx1 i1 ({t3 with Keys:=l26}:bu))
    else
    ((gy nx1 i1 tl5) t3)

def cg(items:(List Int))(keys:(List Int))(rows:(List (List Int))):Nat→Nat→bu→Option Bool
 |0,i1,t1=>
  eO rows t1 items 0 ({(⟨(5:Int),(0:Int),(-1:Int),(0:Int),[],false,(⟨[]⟩:bf),[],[],[],[],(0:Int)⟩:aK)with Items:=([]:List bf)}:aK) ({(⟨(4:Int),(0:Int),(-1:Int),(0:Int),[],false,(⟨[]⟩:bf),[],[],[],[],(0:Int)⟩:aK)with Keys:=([]:List Int)}:aK)
 |k1+1,i1,t1=>
  gy (cg items keys rows k1) i1 keys t1

def jv(items:(List Int))(keys:(List Int))(rows:(List (List Int))):List im→bu→Option Bool
 |[],t=>
  cg items keys rows 4 0 t
 |e::tl,t=>
  (kE t.Columns ([(⟨e,(2:Int)⟩:bw)])).bind fun l28=>
  (jv items keys rows tl) ({t with Columns:=l28}:bu)

def kO(items:(List Int))(keys:(List Int))(rows:(List (List Int))):Option Bool:=
 (u3).bind fun r=>
 if(!r)then
 (some false)
 else
 (jv items keys rows ([[97],[98],[99],[100]]) ({({(⟨[116],[],[]⟩:bu)with Columns:=([]:List bw)}:bu)with Keys:=([]:List Int)}:bu))


end Go.Proofs.YtmogpgcfognefaaGreatDoor

