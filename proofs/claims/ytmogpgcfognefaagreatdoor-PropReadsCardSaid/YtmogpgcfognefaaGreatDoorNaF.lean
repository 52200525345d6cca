/- cG of this claim: F. -/
import Derived.Test.YtmogpgcfognefaaGreatDoorNaD
import Derived.Test.YtmogpgcfognefaaGreatDoorNaV4
import Derived.Lib.MapU
set_option linter.all false
namespace Go.Proofs.YtmogpgcfognefaaGreatDoor
open Go

def eb(f:(Int→Option Bool)):List Int→Nat→Option Int
 |[],i=>
  some (-1:Int)
 |e::tl,i=>
  (f e).bind fun r=>
  if r then
  (some (i:Int))
  else
  ((eb f tl) (i+1))

def jg(s:(List Int))(f:(Int→Option Bool)):Option Int:=
 eb f s 0

def cU(s:(List Int))(f:(Int→Option Bool)):Option Bool:=
 (jg s f).bind fun r=>
 some (decide ((0:Int)≤r))

def m3(k:Int):Option Bool:=
 some ((decide (k<(1:Int)))||(decide ((3:Int)<k)))

def jz(l:af):Option (Bool×af):=
 (cU ((({l with result:=l.n.Kinds}:af).n).Kinds) m3).bind fun r=>
 some ((((((!r)&&(decide ((0:Int)≤((({l with result:=l.n.Kinds}:af).n).Table))))&&(decide (((({l with result:=l.n.Kinds}:af).n).Table)<(4:Int))))&&(decide ((0:Int)<(((({l with result:=l.n.Kinds}:af).n).Kinds).length:Int))))&&(decide ((((({l with result:=l.n.Kinds}:af).n).Kinds).length:Int)≤(4:Int)))),({l with result:=l.n.Kinds}:af))

def mD(k:Int):Option Bool:=
 some ((decide (k<(0:Int)))||(decide ((4:Int)<k)))

def iJ(l:af):Option (Bool×af):=
 (cU ((({l with result:=l.n.Kinds}:af).n).Kinds) mD).bind fun r=>
 some ((((((!r)&&(decide ((0:Int)≤((({l with result:=l.n.Kinds}:af).n).Table))))&&(decide (((({l with result:=l.n.Kinds}:af).n).Table)<(30:Int))))&&(decide ((0:Int)<(((({l with result:=l.n.Kinds}:af).n).Kinds).length:Int))))&&(decide ((((({l with result:=l.n.Kinds}:af).n).Kinds).length:Int)≤(16:Int)))),({l with result:=l.n.Kinds}:af))

def jR(s:List Int):Option (List Int):=
 some s

def jS(n:Int):Option (List Int):=
  if(decide ((0:Int)<(IntKind.i64.wrap (n-(IntKind.i64.wrap ((0:Int)-(0:Int)))))))then
  ((O6 (IntKind.i64.wrap (n-(IntKind.i64.wrap ((0:Int)-(0:Int)))))).bind fun _=>
  (wO (IntKind.i64.wrap (n-(IntKind.i64.wrap ((0:Int)-(0:Int))))) (0:Int)).bind fun mk=>
  (cz mk 0 (0:Int)).bind fun y=>
  jR y)
  else
  (jR ([]:List Int))

def jm(n:Int):Option (List Int):=
 if(decide (n<(0:Int)))then
 (none)
 else
 (jS n)

def gp:List (List Int)→(List Int)→Option (List Int)
 |[],newslice=>
  some newslice
 |e1::tl1,newslice=>
  (nS newslice e1).bind fun newslice1=>
  (gp tl1) newslice1

def gq(slices:(List (List Int))):List (List Int)→Int→Option (List Int)
 |[],size=>
  (jm size).bind fun r=>
  gp slices r
 |e::tl,size=>
  if(decide ((IntKind.i64.wrap (size+(e.length:Int)))<(0:Int)))then
  (none)
  else
  ((gq slices tl) (IntKind.i64.wrap (size+(e.length:Int))))

def fZ(slices:(List (List Int))):Option (List Int):=
 gq slices slices (0:Int)

def nf(tag:Int):Option Int:=
  if((tag==(1:Int))||(tag==(2:Int)))then
  (some (0:Int))
  else
  (if((decide ((4:Int)≤tag))&&(decide (tag≤(7:Int))))then
  (some (1:Int))
  else
  (if((decide ((12:Int)≤tag))&&(decide (tag≤(23:Int))))then
  (some (2:Int))
  else
  (some (-1:Int))))

def il(v1:cP):Option cP:=
 some v1

def mz(v2:cP):Option cP:=
 il (cP.mk (0:Int) v2.N v2.U v2.S)

def my(v:cP):Option cP:=
 mz (cP.mk v.Kind (0:Int) v.U v.S)

def mw(v3:cP):Option cP:=
 il v3

def qP(v:cP):Option cP:=
  if(v.Kind==(1:Int))then
  (if((v.N !=(0:Int))&&(v.N !=(1:Int)))then
  (il v)
  else
  (my v))
  else
  (if(v.Kind==(2:Int))then
  (my v)
  else
  (if(v.Kind==(0:Int))then
  (mz v)
  else
  (if(v.Kind==(3:Int))then
  (if(decide ((v.S.length:Int)≤(40:Int)))then
  (mw (cP.mk (0:Int) v.N v.U ([])))
  else
  (mw v))
  else
  (if(v.Kind==(4:Int))then
  (il (cP.mk (0:Int) (0:Int) (0:Int) v.S))
  else
  (il v)))))

def oT(v:cP):Option Int:=
 (qP v).bind fun r=>
 if(!decide (r=(⟨(0:Int),(0:Int),(0:Int),[]⟩:cP)))then
 (some (120:Int))
 else
 (some (0:Int))

def oS(v:cP):Option Bool:=
 (oT v).bind fun r=>
 some ((r==(0:Int))&&(v.Kind !=(4:Int)))

def o6(n:bt):Option Bool:=
  if(n.Tag==(1:Int))then
  ((oS n.Value).bind fun r=>
  some (r&&(n.Col==(0:Int))))
  else
  (if(n.Tag==(2:Int))then
  (some (((decide (n.Value=(⟨(0:Int),(0:Int),(0:Int),[]⟩:cP)))&&(decide ((0:Int)≤n.Col)))&&(decide (n.Col<(16:Int)))))
  else
  (some ((decide (n.Value=(⟨(0:Int),(0:Int),(0:Int),[]⟩:cP)))&&(n.Col==(0:Int)))))

def jF(nx:Nat→(List Int)→(List Int)→Option ((List Int)×Bool))(i:Nat)(e1:bt)(all:List Int)(open1:List Int)(r:Int):List Int→Nat→Int→(List Int)→Option ((List Int)×Bool)
  |[],i1,first,at1=>
    if(!decide (at1=([e1.L,e1.R])))then
    (some ([],false))
    else
    ((nS all ([first])).bind fun all1=>
    (cz open1 0 (IntKind.i64.wrap ((open1.length:Int)-r))).bind fun y1=>
    (nS y1 ([(i:Int)])).bind fun open2=>
    nx (i+1) all1 open2)
  |e2::tl1,i1,first,at1=>
    (eZ all e2).bind fun e3=>
    (eZ at1 (i1:Int)).bind fun e4=>
    (some (at1.set (i1:Int).toNat e2)).bind fun ar=>
    (jF nx i e1 all open1 r tl1) (i1+1) (min first e3) ar

def iA:List bt→Nat→(List Int)→(List Int)→Option ((List Int)×Bool)
  |[],i,all,open1=>
    some (all,(((open1.length:Int)==(1:Int))&&(decide ((all.length:Int)≤(1000:Int)))))
  |e1::tl,i,all,open1=>
    (nf e1.Tag).bind fun r=>
    (if(!((decide (r<(0:Int)))||(decide ((open1.length:Int)<r))))then((o6 e1).bind fun r1=>
    some (!r1))else some true).bind fun t=>
    if t then
    (some ([],false))
    else
    ((cz open1 (IntKind.i64.wrap ((open1.length:Int)-r)) (open1.length:Int)).bind fun y=>
    jF (iA tl) i e1 all open1 r y 0 (i:Int) ([(-1:Int),(-1:Int)]))

def o5(e:bo):Option ((List Int)×Bool):=
 iA e.Nodes 0 ([]:List Int) ([]:List Int)

def lX(e:bo):Option Int:=
 (o5 e).bind fun r=>
 if(!r.2)then
 (some (200:Int))
 else
 (some (0:Int))

def dg(i:Nat)(y:List Int):Nat→Nat→(List Int)→Int→Option (List Int)
  |0,i1,s1,k=>
    (cz s1 k (s1.length:Int)).bind fun y1=>
    (some (s1.take k.toNat++List.replicate y1.length (0:Int))).bind fun cl=>
    (cz cl 0 k).bind fun y2=>
    some y2
  |k2+1,i1,s1,k=>
    (yV s1 (i:Int) y.length (i1:Int)).bind fun e3=>
    (yV s1 (i:Int) y.length (IntKind.i64.wrap ((i1:Int)-(1:Int)))).bind fun e4=>
    if(e3 !=e4)then
    ((yV s1 (i:Int) y.length (i1:Int)).bind fun e5=>
    (eZ s1 k).bind fun e6=>
    (some (s1.set k.toNat e5)).bind fun st=>
    (dg i y k2) (i1+1) st (IntKind.i64.wrap (k+(1:Int))))
    else
    ((dg i y k2) (i1+1) s1 k)

def dK(s:(List Int)):List Int→Nat→Option (List Int)
  |[],i=>
    some s
  |e::tl,i=>
    (eZ s (IntKind.i64.wrap ((i:Int)-(1:Int)))).bind fun e1=>
    if(e==e1)then
    ((cz s (i:Int) (s.length:Int)).bind fun y=>
    dg i y (y.length-1) 1 s (i:Int))
    else
    ((dK s tl) (i+1))

def gY(s:(List Int)):Option (List Int):=
 if(decide ((s.length:Int)<(2:Int)))then
 (some s)
 else
 (dK s (s.drop (1)) 1)

def j5:List bt→(List Int)→Option (List Int)
  |[],out=>
    (wX out).bind fun MY=>
    (gY MY).bind fun r1=>
    some r1
  |e1::tl,out=>
    if(e1.Tag==(2:Int))then
    ((nS out ([e1.Col])).bind fun out1=>
    (j5 tl) out1)
    else
    ((j5 tl) out)

def pH(e:bo):Option (List Int):=
 (lX e).bind fun r=>
 if(r !=(0:Int))then
 (some ([]:List Int))
 else
 (j5 e.Nodes ([]:List Int))

def cA(s:(List Int)):Option (List Int):=
 (nS ([]:List Int) s).bind fun x=>
 some x

def lN(stack:(List Int))(k:Int):Option ((List Int)×(List Int)):=
 (cz stack (IntKind.i64.wrap ((stack.length:Int)-k)) (stack.length:Int)).bind fun y=>
 (cA y).bind fun r=>
 (cz stack 0 (IntKind.i64.wrap ((stack.length:Int)-k))).bind fun y1=>
 some (r,y1)

def jE(bad:Int)(stack:List Int):Option (Int×Int):=
  if(bad !=(0:Int))then
  (some ((0:Int),bad))
  else
  ((eZ stack (0:Int)).bind fun e1=>
  some (e1,(0:Int)))

def fq(do1:(bt→(List Int)→Option (Int×Int))):List bt→Int→(List Int)→Option (Int×Int)
  |[],bad1,stack1=>
    jE bad1 stack1
  |e2::tl,bad1,stack1=>
    (nf e2.Tag).bind fun r=>
    (lN stack1 r).bind fun r1=>
    (do1 e2 r1.1).bind fun r2=>
    if(r2.2 !=(0:Int))then
    (jE r2.2 r1.2)
    else
    ((nS r1.2 ([r2.1])).bind fun l2=>
    (fq do1 tl) bad1 l2)

def lG(e:bo)(do1:(bt→(List Int)→Option (Int×Int))):Option (Int×Int):=
 fq do1 e.Nodes (0:Int) ([]:List Int)

def nR(tag:Int):Option Bool:=
 some ((tag==(4:Int))||((decide ((12:Int)≤tag))&&(decide (tag≤(15:Int)))))

def jG(kinds:(List Int))(n:bt):List Int→Int→Option (Int×Int)
  |[],own=>
    if(n.Tag==(1:Int))then
    (some (n.Value.Kind,(0:Int)))
    else
    (if(n.Tag==(2:Int))then
    ((eZ kinds n.Col).bind fun e1=>
    some (e1,(0:Int)))
    else
    ((nR n.Tag).bind fun r=>
    if r then
    (if((own==(-1:Int))||((own !=(0:Int))&&(own !=(2:Int))))then
    (some ((0:Int),(201:Int)))
    else
    (some ((2:Int),(0:Int))))
    else
    (if(((n.Tag==(5:Int))||(n.Tag==(22:Int)))||(n.Tag==(23:Int)))then
    (if((own==(-1:Int))||((own !=(0:Int))&&(own !=(1:Int))))then
    (some ((0:Int),(201:Int)))
    else
    (some ((1:Int),(0:Int))))
    else
    (if((own==(-1:Int))||((own !=(0:Int))&&(own !=own)))then
    (some ((0:Int),(201:Int)))
    else
    (some ((1:Int),(0:Int)))))))
  |e::tl,own=>
    if((e==(0:Int))||(e==own))then
    ((jG kinds n tl) own)
    else
    (if(own==(0:Int))then
    ((jG kinds n tl) e)
    else
    ((jG kinds n tl) (-1:Int)))

def gI(kinds:(List Int))(n:bt)(l:(List Int)):Option (Int×Int):=
 jG kinds n l (0:Int)

def j4(e:bo)(kinds:(List Int)):List Int→Option (Int×Int)
 |[]=>
  (lG e (gI kinds)).bind fun r2=>
  some (r2.1,r2.2)
 |e2::tl1=>
  if(decide ((kinds.length:Int)≤e2))then
  (some ((0:Int),(2:Int)))
  else
  ((j4 e kinds tl1))

def mK(e:bo)(kinds:(List Int)):List Int→Option (Int×Int)
 |[]=>
  (pH e).bind fun r1=>
  j4 e kinds r1
 |e1::tl=>
  if((decide (e1<(0:Int)))||(decide ((3:Int)<e1)))then
  (some ((0:Int),(2:Int)))
  else
  ((mK e kinds tl))

def ml(e:bo)(kinds:(List Int)):Option (Int×Int):=
 (lX e).bind fun r=>
 if(r !=(0:Int))then
 (some ((0:Int),r))
 else
 (mK e kinds kinds)

def lS(e:bo)(kinds:(List Int)):Option Bool:=
 (ml e kinds).bind fun r=>
 some ((r.2==(0:Int))&&((r.1==(0:Int))||(r.1==(1:Int))))

def jA(l:af):Option (Bool×af):=
 (fZ ([l.a_,l.b])).bind fun r=>
 (lS ((({l with result:=r}:af).n).Cond) (({l with result:=r}:af).result)).bind fun r1=>
 some (r1,({l with result:=r}:af))

def ib(l:af):Option (Bool×af):=
 (lS ((({l with result:=l.a_}:af).n).Cond) (({l with result:=l.a_}:af).a_)).bind fun r=>
 some (r,({l with result:=l.a_}:af))

def dR(nx1:Bool→af→Option (Bool×af))(ob1:af)(ok1:Bool)(k:Int):Option (Bool×af):=
 (nS ob1.result ([k])).bind fun l7=>
 nx1 ok1 ({ob1 with result:=l7}:af)

def gh(nx1:Bool→af→Option (Bool×af))(e1:gc)(ok:Bool)(ob1:af)(r:Int×Int)(x:Bool):Option (Bool×af):=
 if x then
 (dR nx1 ob1 (((ok&&(r.2==(0:Int)))&&(decide ((1:Int)<e1.Tag)))&&(decide (e1.Tag≤(5:Int)))) r.1)
 else
 (dR nx1 ob1 (((ok&&(r.2==(0:Int)))&&(decide ((1:Int)<e1.Tag)))&&(decide (e1.Tag≤(5:Int)))) (2:Int))

def cx:List gc→Bool→af→Option (Bool×af)
  |[],ok,ob1=>
    some (ok,ob1)
  |e1::tl1,ok,ob1=>
    if(e1.Tag==(1:Int))then
    (dR (cx tl1) ob1 (ok&&((e1.Arg.Nodes.length:Int)==(0:Int))) (2:Int))
    else
    ((ml e1.Arg ob1.a_).bind fun r=>
    if(e1.Tag==(3:Int))then
    (dR (cx tl1) ob1 ((((ok&&(r.2==(0:Int)))&&(decide ((1:Int)<e1.Tag)))&&(decide (e1.Tag≤(5:Int))))&&((r.1==(2:Int))||(r.1==(0:Int)))) (2:Int))
    else
    (if(e1.Tag==(4:Int))then
    (gh (cx tl1) e1 ok ob1 r (e1.Tag==(4:Int)))
    else
    (gh (cx tl1) e1 ok ob1 r (e1.Tag==(5:Int)))))

def ff(l:af):List Int→af→Option (Bool×af)
  |[],ob=>
    cx l.n.Aggs (((decide ((l.n.Keys.length:Int)≤(3:Int)))&&(decide ((l.n.Aggs.length:Int)≤(12:Int))))&&(decide ((0:Int)<(IntKind.i64.wrap ((l.n.Keys.length:Int)+(l.n.Aggs.length:Int)))))) ob
  |e::tl,ob=>
    if((decide (e<(0:Int)))||(decide ((ob.a_.length:Int)≤e)))then
    (some (false,ob))
    else
    ((eZ ob.a_ e).bind fun e2=>
    (nS ob.result ([e2])).bind fun l9=>
    (ff l tl) ({ob with result:=l9}:af))

def fa(l:af):Option (Bool×af):=
 ff l l.n.Keys ({l with result:=([]:List Int)}:af)

def fm:List gc→Nat→af→Option (Bool×af)
  |[],i1,ob=>
    some (true,ob)
  |e::tl,i1,ob=>
    if(e.Tag==(3:Int))then
    ((eZ ob.result (IntKind.i64.wrap ((ob.n.Keys.length:Int)+(i1:Int)))).bind fun e1=>
    (some (ob.result.set (IntKind.i64.wrap ((ob.n.Keys.length:Int)+(i1:Int))).toNat (4:Int))).bind fun st=>
    (fm tl) (i1+1) ({ob with result:=st}:af))
    else
    ((fm tl) (i1+1) ob)

def gM(l:af):Option (Bool×af):=
 (fa l).bind fun r=>
 if(!r.1)then
 (some (false,r.2))
 else
 (fm r.2.n.Aggs 0 r.2)

def jU(nx1:Nat→Bool→af→Option (Bool×af))(i1:Nat)(e2:gc)(ok1:Bool)(ob:af)(e3:Int)(x1:Bool):Option (Bool×af):=
 if x1 then
 (nx1 (i1+1) ((ok1&&((e2.Arg.Nodes.length:Int)==(0:Int)))&&(e3 !=(4:Int))) ob)
 else
 (nx1 (i1+1) false ob)

def iu(l:af)(nx1:Nat→Bool→af→Option (Bool×af))(i1:Nat)(e2:gc)(ok1:Bool)(ob:af)(e3:Int)(x:Bool):Option (Bool×af):=
  if x then
  (nx1 (i1+1) ((ok1&&((e2.Arg.Nodes.length:Int)==(0:Int)))&&(e3==(2:Int))) ob)
  else
  (if(e2.Tag==(3:Int))then
  ((eZ ob.result (IntKind.i64.wrap ((l.n.Keys.length:Int)+(i1:Int)))).bind fun e4=>
  (some (ob.result.set (IntKind.i64.wrap ((l.n.Keys.length:Int)+(i1:Int))).toNat (2:Int))).bind fun st=>
  nx1 (i1+1) ((ok1&&((e2.Arg.Nodes.length:Int)==(0:Int)))&&(e3==(4:Int))) ({ob with result:=st}:af))
  else
  (if(e2.Tag==(4:Int))then
  (jU nx1 i1 e2 ok1 ob e3 (e2.Tag==(4:Int)))
  else
  (jU nx1 i1 e2 ok1 ob e3 (e2.Tag==(5:Int)))))

def dv(l:af):List gc→Nat→Bool→af→Option (Bool×af)
 |[],i1,ok1,ob=>
  some (ok1,ob)
 |e2::tl1,i1,ok1,ob=>
  (eZ ob.a_ (IntKind.i64.wrap ((l.n.Keys.length:Int)+(i1:Int)))).bind fun e3=>
  if(e2.Tag==(1:Int))then
  (iu l (dv l tl1) i1 e2 ok1 ob e3 (e2.Tag==(1:Int)))
  else
  (iu l (dv l tl1) i1 e2 ok1 ob e3 (e2.Tag==(2:Int)))

def ir(l:af)(r:(List Int)):List Int→Nat→Bool→Option (Bool×af)
  |[],i,ok=>
    dv l l.n.Aggs 0 ok ({l with result:=r}:af)
  |e1::tl,i,ok=>
    (if(ok&&(e1==(i:Int)))then((eZ l.a_ (i:Int)).bind fun e5=>
    some (e5 !=(4:Int)))else some false).bind fun t=>
    (ir l r tl) (i+1) t

def iK(l:af):Option (Bool×af):=
  (eZ l.nodes l.n.A).bind fun e=>
  if(!((((e.Op==(9:Int))&&(decide ((l.n.Keys.length:Int)≤(3:Int))))&&(decide ((l.n.Aggs.length:Int)≤(12:Int))))&&((IntKind.i64.wrap ((l.n.Keys.length:Int)+(l.n.Aggs.length:Int)))==(l.a_.length:Int))))then
  (some (false,l))
  else
  ((cA l.a_).bind fun r=>
  ir l r l.n.Keys 0 ((((e.Op==(9:Int))&&(decide ((l.n.Keys.length:Int)≤(3:Int))))&&(decide ((l.n.Aggs.length:Int)≤(12:Int))))&&((IntKind.i64.wrap ((l.n.Keys.length:Int)+(l.n.Aggs.length:Int)))==(l.a_.length:Int))))

def gD:List bo→af→Option (Bool×af)
  |[],ob=>
    some (decide ((0:Int)<(ob.result.length:Int)),ob)
  |e::tl,ob=>
    (ml e ob.a_).bind fun r=>
    if(r.2 !=(0:Int))then
    (some (false,ob))
    else
    ((nS ob.result ([r.1])).bind fun l4=>
    (gD tl) ({ob with result:=l4}:af))

def iT(l:af):Option (Bool×af):=
 gD l.n.Items ({l with result:=([]:List Int)}:af)

def ki(l:af):Option (Bool×af):=
 some (true,({l with result:=l.a_}:af))

def ge(nx:Nat→af→Option (Bool×af))(i:Nat)(ob:af)(e1:Int)(k:Int):Option (Bool×af):=
  if((e1 !=(0:Int))&&(e1 !=k))then
  (some (false,ob))
  else
  ((nS ob.result ([k])).bind fun l4=>
  nx (i+1) ({ob with result:=l4}:af))

def ez:List Int→Nat→af→Option (Bool×af)
 |[],i,ob=>
  some (true,ob)
 |e::tl,i,ob=>
  (eZ ob.b (i:Int)).bind fun e1=>
  if(e==(0:Int))then
  (ge (ez tl) i ob e1 e1)
  else
  (ge (ez tl) i ob e1 e)

def iI(l:af):Option (Bool×af):=
 if((l.a_.length:Int) !=(l.b.length:Int))then
 (some (false,l))
 else
 (ez l.a_ 0 ({l with result:=([]:List Int)}:af))

def cW(f:(iC→Option Bool)):List iC→Nat→Option Int
 |[],i=>
  some (-1:Int)
 |e::tl,i=>
  (f e).bind fun r=>
  if r then
  (some (i:Int))
  else
  ((cW f tl) (i+1))

def fI(s:(List iC))(f:(iC→Option Bool)):Option Int:=
 cW f s 0

def dF(s:(List iC))(f:(iC→Option Bool)):Option Bool:=
 (fI s f).bind fun r=>
 some (decide ((0:Int)≤r))

def li(l:af)(o:iC):Option Bool:=
 some ((decide (o.Col<(0:Int)))||(decide ((l.a_.length:Int)≤o.Col)))

def jy(l:af):Option (Bool×af):=
 (dF ((({l with result:=l.a_}:af).n).Order) (li ({l with result:=l.a_}:af))).bind fun r=>
 some (((((!r)&&(decide ((((({l with result:=l.a_}:af).n).Order).length:Int)≤(3:Int))))&&(decide ((-1:Int)≤((({l with result:=l.a_}:af).n).Limit))))&&(decide (((({l with result:=l.a_}:af).n).Limit)≤(2147483647:Int)))),({l with result:=l.a_}:af))

def pA:Option (List (Int×(af→Unit→Option (Bool×af)))):=
 some (fA (fA (fA (fA (fA (fA (fA (fA (fA (fA (fA ([]:List (Int×(af→Unit→Option (Bool×af)))) (1:Int) (fun(mc:af) (mx:Unit)=>jz mc)) (9:Int) (fun(mc:af) (mx:Unit)=>iJ mc)) (2:Int) (fun(mc:af) (mx:Unit)=>jA mc)) (3:Int) (fun(mc:af) (mx:Unit)=>ib mc)) (4:Int) (fun(mc:af) (mx:Unit)=>fa mc)) (10:Int) (fun(mc:af) (mx:Unit)=>gM mc)) (11:Int) (fun(mc:af) (mx:Unit)=>iK mc)) (5:Int) (fun(mc:af) (mx:Unit)=>iT mc)) (6:Int) (fun(mc:af) (mx:Unit)=>ki mc)) (7:Int) (fun(mc:af) (mx:Unit)=>iI mc)) (8:Int) (fun(mc:af) (mx:Unit)=>jy mc))

def gr(x2:Bool):Option Int:=
 if x2 then
 (some (1:Int))
 else
 (some (-1:Int))

def nl(op:Int)(x1:Bool):Option Int:=
  if x1 then
  (some (2:Int))
  else
  (if(op==(3:Int))then
  (gr (op==(3:Int)))
  else
  (if(op==(4:Int))then
  (gr (op==(4:Int)))
  else
  (if(op==(5:Int))then
  (gr (op==(5:Int)))
  else
  (if(op==(6:Int))then
  (gr (op==(6:Int)))
  else
  (if(op==(8:Int))then
  (gr (op==(8:Int)))
  else
  (if(op==(10:Int))then
  (gr (op==(10:Int)))
  else
  (gr (op==(11:Int)))))))))

def nm(op:Int)(x:Bool):Option Int:=
  if x then
  (some (0:Int))
  else
  (if(op==(2:Int))then
  (nl op (op==(2:Int)))
  else
  (nl op (op==(7:Int))))

def p5(op:Int):Option Int:=
 if(op==(1:Int))then
 (nm op (op==(1:Int)))
 else
 (nm op (op==(9:Int)))

def p6(n:aF):Option Bool:=
 some ((((((((n.Op==(1:Int))||(n.Op==(9:Int)))||((n.Table==(0:Int))&&((n.Kinds.length:Int)==(0:Int))))&&((n.Op==(2:Int))||(!n.Left)))&&(((n.Op==(2:Int))||(n.Op==(3:Int)))||((n.Cond.Nodes.length:Int)==(0:Int))))&&((((n.Op==(4:Int))||(n.Op==(10:Int)))||(n.Op==(11:Int)))||((IntKind.i64.wrap ((n.Keys.length:Int)+(n.Aggs.length:Int)))==(0:Int))))&&((n.Op==(5:Int))||((n.Items.length:Int)==(0:Int))))&&((n.Op==(8:Int))||(((n.Order.length:Int)==(0:Int))&&(n.Limit==(0:Int)))))

def fj(v:Int):List Int→Nat→Option Int
 |[],i=>
  some (-1:Int)
 |e::tl,i=>
  if(v==e)then
  (some (i:Int))
  else
  ((fj v tl) (i+1))

def gA(s:(List Int))(v:Int):Option Int:=
 fj v s 0

def da(s:(List Int))(v:Int):Option Bool:=
 (gA s v).bind fun r=>
 some (decide ((0:Int)≤r))

def ca(l:af)(i:Int)(ask:(af→Unit→Option (Bool×af)))(e:aF)(r:Int):List Int→Nat→(List Int)→(List Int)→Option (Bool×af)
  |[],i5,a_,b3=>
    if(((e.Op==(8:Int))||(e.Op==(10:Int)))&&(i !=(IntKind.i64.wrap (((({({({({({l with n:=e}:af)with a_:=[]}:af)with b:=[]}:af)with a_:=a_}:af)with b:=b3}:af).nodes).length:Int)-(1:Int)))))then
    (some (false,({({({({({l with n:=e}:af)with a_:=[]}:af)with b:=[]}:af)with a_:=a_}:af)with b:=b3}:af)))
    else
    ((ask ({({({({({l with n:=e}:af)with a_:=[]}:af)with b:=[]}:af)with a_:=a_}:af)with b:=b3}:af) ()).bind fun r2=>
    if((!r2.1)||(decide ((16:Int)<(r2.2.result.length:Int))))then
    (some (false,r2.2))
    else
    ((nS r2.2.kinds ([r2.2.result])).bind fun l1=>
    (cz r2.2.open_ 0 (IntKind.i64.wrap ((r2.2.open_.length:Int)-r))).bind fun y2=>
    (nS y2 ([i])).bind fun l2=>
    some (true,({({r2.2 with kinds:=l1}:af)with open_:=l2}:af))))
  |e1::tl,i5,a_,b3=>
    (eZ l.kinds e1).bind fun e2=>
    (if(e.Op !=(11:Int))then((da e2 (4:Int)).bind fun r3=>
    some r3)else some false).bind fun t1=>
    if t1 then
    (some (false,({({({({({l with n:=e}:af)with a_:=[]}:af)with b:=[]}:af)with a_:=a_}:af)with b:=b3}:af)))
    else
    (if((i5:Int)==(0:Int))then
    ((ca l i ask e r tl) (i5+1) (({({({({({({l with n:=e}:af)with a_:=[]}:af)with b:=[]}:af)with a_:=a_}:af)with b:=b3}:af)with a_:=e2}:af).a_) (({({({({({({l with n:=e}:af)with a_:=[]}:af)with b:=[]}:af)with a_:=a_}:af)with b:=b3}:af)with a_:=e2}:af).b))
    else
    ((ca l i ask e r tl) (i5+1) (({({({({({({l with n:=e}:af)with a_:=[]}:af)with b:=[]}:af)with a_:=a_}:af)with b:=b3}:af)with b:=e2}:af).a_) (({({({({({({l with n:=e}:af)with a_:=[]}:af)with b:=[]}:af)with a_:=a_}:af)with b:=b3}:af)with b:=e2}:af).b)))

def kh(l:af)(i:Int)(ask:(af→Unit→Option (Bool×af))):Option (Bool×af):=
  (eZ l.nodes i).bind fun e=>
  (p5 e.Op).bind fun r=>
  (if(!((decide (r<(0:Int)))||(decide ((l.open_.length:Int)<r))))then((p6 e).bind fun r1=>
  some (!r1))else some true).bind fun t=>
  if t then
  (some (false,l))
  else
  ((cz l.open_ (IntKind.i64.wrap ((l.open_.length:Int)-r)) (l.open_.length:Int)).bind fun y=>
  if(!decide ((pI ([(-1:Int),(-1:Int)]) y)=([e.A,e.B])))then
  (some (false,l))
  else
  ((cz l.open_ (IntKind.i64.wrap ((l.open_.length:Int)-r)) (l.open_.length:Int)).bind fun y1=>
  ca l i ask e r y1 0 (({({({l with n:=e}:af)with a_:=[]}:af)with b:=[]}:af).a_) (({({({l with n:=e}:af)with a_:=[]}:af)with b:=[]}:af).b)))

def ko:List (List Int)→(List (List Int))→Option ((List (List Int))×Int×Int)
 |[],out=>
  some (out,(0:Int),(0:Int))
 |e::tl,out=>
  (cA e).bind fun r1=>
  (nS out ([r1])).bind fun out1=>
  (ko tl) out1

def kp(ob:af)(wrong1:Int):Option ((List (List Int))×Int×Int):=
 if(decide ((0:Int)≤wrong1))then
 (some ([],wrong1,(291:Int)))
 else
 (ko ob.kinds ([]:List (List Int)))

def lD(nodes:(List aF))(wrong:Int)(ob:af):Option ((List (List Int))×Int×Int):=
 if((decide (wrong<(0:Int)))&&((ob.open_.length:Int) !=(1:Int)))then
 (kp ob (IntKind.i64.wrap ((nodes.length:Int)-(1:Int))))
 else
 (kp ob wrong)

def km(nodes:(List aF))(r:(List (Int×(af→Unit→Option (Bool×af))))):List aF→Nat→Int→af→Option ((List (List Int))×Int×Int)
 |[],i1,wrong2,ob1=>
  lD nodes wrong2 ob1
 |e1::tl1,i1,wrong2,ob1=>
  (kh ob1 (i1:Int) ((kE r e1.Op).getD (fun _ _=>none))).bind fun r2=>
  if(!r2.1)then
  (lD nodes (i1:Int) r2.2)
  else
  ((km nodes r tl1) (i1+1) wrong2 r2.2)

def lT(nodes:(List aF)):Option ((List (List Int))×Int×Int):=
  if((decide ((nodes.length:Int)<(1:Int)))||(decide ((60:Int)<(nodes.length:Int))))then
  (some ([],(0:Int),(291:Int)))
  else
  ((pA).bind fun r=>
  km nodes r nodes 0 (-1:Int) (⟨nodes,[],[],(⟨(0:Int),(0:Int),(0:Int),(0:Int),[],false,(⟨[]⟩:bo),[],[],[],[],(0:Int)⟩:aF),[],[],[]⟩:af))

def pE(c:Int):Option Bool:=
 some ((decide ((97:Int)≤c))&&(decide (c≤(122:Int))))

def dH(v:ji):List ji→Nat→Option Int
 |[],i=>
  some (-1:Int)
 |e::tl,i=>
  if(v==e)then
  (some (i:Int))
  else
  ((dH v tl) (i+1))

def ip(s:(List ji))(v:ji):Option Int:=
 dH v s 0

def gB(s:(List ji))(v:ji):Option Bool:=
 (ip s v).bind fun r=>
 some (decide ((0:Int)≤r))

def p7(s:ji):Option Bool:=
 (gB Na s).bind fun r=>
 some r

def gO(s:ji):Option ji:=if s.length<35184372088832 then some (Lib.toUpperD s)else none

def rE(c:Int):Option Bool:=
 some ((decide ((48:Int)≤c))&&(decide (c≤(57:Int))))

def lF:List (Int×Int)→Option Bool
  |[]=>
    some true
  |e::tl=>
    (rE e.2).bind fun r3=>
    (if(!r3)then((pE e.2).bind fun r4=>
    some (!r4))else some false).bind fun t2=>
    if(t2&&(e.2 !=(95:Int)))then
    (some false)
    else
    ((lF tl))

def m7(s:ji):Option Bool:=
  (if(!((s==([]))||(decide ((16:Int)<(s.length:Int)))))then((Hw s (0:Int)).bind fun b=>
  (pE (IntKind.i32.wrap b)).bind fun r=>
  some (!r))else some true).bind fun t=>
  (if(!t)then((gO s).bind fun r1=>
  (p7 r1).bind fun r2=>
  some r2)else some true).bind fun t1=>
  if t1 then
  (some false)
  else
  (lF (BE s))

def ci(f:(aV→Option Bool)):List aV→Nat→Option Int
 |[],i=>
  some (-1:Int)
 |e::tl,i=>
  (f e).bind fun r=>
  if r then
  (some (i:Int))
  else
  ((ci f tl) (i+1))

def ev(s:(List aV))(f:(aV→Option Bool)):Option Int:=
 ci f s 0

def dL(of:(aV→Option ji))(name:ji)(p:aV):Option Bool:=
 (of p).bind fun r=>
 some (r==name)

def gN(l:(List aV))(of:(aV→Option ji))(name:ji):Option (Int×Bool):=
 (ev l (dL of name)).bind fun r=>
 some ((max r (0:Int)),decide ((0:Int)≤r))

def eE(l:(List aV))(of:(aV→Option ji)):List aV→Nat→Option Bool
  |[],i=>
    some true
  |e::tl,i=>
    (of e).bind fun r=>
    (gN l of r).bind fun r1=>
    (if(!(r1.1 !=(i:Int)))then((of e).bind fun r2=>
    (m7 r2).bind fun r3=>
    some (!r3))else some true).bind fun t=>
    if t then
    (some false)
    else
    ((eE l of tl) (i+1))

def jH(l:(List aV))(of:(aV→Option ji)):Option Bool:=
 eE l of l 0

def dS(c:aV):Option ji:=
 some c.Name

def gS(kind:Int):Nat→Nat→Option ji
 |0,i=>
  some ([])
 |k1+1,i=>
  (eZ LA (i:Int)).bind fun e1=>
  if(e1.kind==kind)then
  (some e1.word)
  else
  ((gS kind k1) (i+1))

def n9(kind:Int):Option ji:=
 gS kind 3 0

def ea(t:bp):List Int→Nat→Bool→Option Int
  |[],i1,ok1=>
    if(!ok1)then
    (some (211:Int))
    else
    (some (0:Int))
  |e1::tl1,i1,ok1=>
    (if((ok1&&(decide ((0:Int)≤e1)))&&(decide (e1<(t.Columns.length:Int))))then((if(!((i1:Int)==(0:Int)))then((eZ t.Keys (IntKind.i64.wrap ((i1:Int)-(1:Int)))).bind fun e2=>
    some (decide (e2<e1)))else some true).bind fun t3=>
    some t3)else some false).bind fun t2=>
    (ea t tl1) (i1+1) t2

def eV(t:bp):List aV→Bool→Option Int
  |[],ok=>
    ea t t.Keys 0 ok
  |e::tl,ok=>
    (if ok then((n9 e.Kind).bind fun r2=>
    some (!(r2==([]))))else some false).bind fun t4=>
    (eV t tl) t4

def j8(t:bp):Option Int:=
  (m7 t.Name).bind fun r=>
  (if((r&&(decide ((1:Int)≤(t.Columns.length:Int))))&&(decide ((t.Columns.length:Int)≤(4:Int))))then((jH t.Columns dS).bind fun r1=>
  some r1)else some false).bind fun t1=>
  eV t t.Columns t1

def iO(t:bp):Option Bool:=
 (j8 t).bind fun r=>
 some (r !=(0:Int))

def bH(f:(bp→Option Bool)):List bp→Nat→Option Int
 |[],i=>
  some (-1:Int)
 |e::tl,i=>
  (f e).bind fun r=>
  if r then
  (some (i:Int))
  else
  ((bH f tl) (i+1))

def cR(s:(List bp))(f:(bp→Option Bool)):Option Int:=
 bH f s 0

def ej(s:(List bp))(f:(bp→Option Bool)):Option Bool:=
 (cR s f).bind fun r=>
 some (decide ((0:Int)≤r))

def dY(of:(bp→Option ji))(name:ji)(p:bp):Option Bool:=
 (of p).bind fun r=>
 some (r==name)

def hU(l:(List bp))(of:(bp→Option ji))(name:ji):Option (Int×Bool):=
 (cR l (dY of name)).bind fun r=>
 some ((max r (0:Int)),decide ((0:Int)≤r))

def eM(l:(List bp))(of:(bp→Option ji)):List bp→Nat→Option Bool
  |[],i=>
    some true
  |e::tl,i=>
    (of e).bind fun r=>
    (hU l of r).bind fun r1=>
    (if(!(r1.1 !=(i:Int)))then((of e).bind fun r2=>
    (m7 r2).bind fun r3=>
    some (!r3))else some true).bind fun t=>
    if t then
    (some false)
    else
    ((eM l of tl) (i+1))

def j7(l:(List bp))(of:(bp→Option ji)):Option Bool:=
 eM l of l 0

def eg(t:bp):Option ji:=
 some t.Name

def nt(c:bA):Option Int:=
  (if(!(decide ((4:Int)<(c.Tables.length:Int))))then((ej c.Tables iO).bind fun r=>
  some r)else some true).bind fun t=>
  (if(!t)then((j7 c.Tables eg).bind fun r1=>
  some (!r1))else some true).bind fun t1=>
  if t1 then
  (some (210:Int))
  else
  (some (0:Int))

def d6(root:(List Int))(c:Int):Option Bool:=
  (if(!((decide (c<(0:Int)))||(decide ((root.length:Int)≤c))))then((eZ root c).bind fun e=>
  some (e==(4:Int)))else some true).bind fun t=>
  some t

def cD(f:(aF→Option Bool)):List aF→Nat→Option Int
 |[],i=>
  some (-1:Int)
 |e::tl,i=>
  (f e).bind fun r=>
  if r then
  (some (i:Int))
  else
  ((cD f tl) (i+1))

def dz(s:(List aF))(f:(aF→Option Bool)):Option Int:=
 cD f s 0

def df(s:(List aF))(f:(aF→Option Bool)):Option Bool:=
 (dz s f).bind fun r=>
 some (decide ((0:Int)≤r))

def cd(s2:(List aV))(eq:(Int→aV→Option Bool)):List Int→Nat→Option Bool
 |[],i=>
  some true
 |e::tl,i=>
  (eZ s2 (i:Int)).bind fun e1=>
  (eq e e1).bind fun r=>
  if(!r)then
  (some false)
  else
  ((cd s2 eq tl) (i+1))

def cE(s1:(List Int))(s2:(List aV))(eq:(Int→aV→Option Bool)):Option Bool:=
 if((s1.length:Int) !=(s2.length:Int))then
 (some false)
 else
 (cd s2 eq s1 0)

def iD(k:Int)(c:aV):Option Bool:=
 some (k==c.Kind)

def d5(f:cT)(p:(Option bI))(n:aF):Option Bool:=
  if(n.Op !=(1:Int))then
  (some false)
  else
  ((if(!(f.At !=(1:Int)))then((p).bind fun p1=>
  some (decide ((p1.c.Tables.length:Int)≤n.Table)))else some true).bind fun t=>
  if t then
  (some true)
  else
  ((p).bind fun p2=>
  (eZ p2.c.Tables n.Table).bind fun e=>
  (cE n.Kinds e.Columns iD).bind fun r=>
  some (!r)))

def kI(p:(Option bI))(f:cT)(root:(List Int)):Option Bool:=
  if((((((f.At !=(1:Int))&&(f.At !=(2:Int)))||(decide (f.Way<(1:Int))))||(decide ((4:Int)<f.Way)))||((f.Way==(1:Int)) !=(decide ((0:Int)<(f.Cols.length:Int)))))||(decide ((16:Int)<(f.Cols.length:Int))))then
  (some false)
  else
  ((cU f.Cols (d6 root)).bind fun r=>
  if r then
  (some false)
  else
  ((df f.Nodes (d5 f p)).bind fun r1=>
  some (!r1)))

def ic{Sg:Type}(from1:Int)(yld:(Int×Int)→Sg→Option (Bool×Sg))(nx:Nat→Sg→Option Sg)(i:Nat):List aF→Nat→Sg→Option Sg
  |[],i1,s2=>
    nx (i+1) s2
  |e4::tl1,i1,s2=>
    if((e4.Op==(9:Int))&&(e4.Table==from1))then
    ((yld ((i:Int),(i1:Int)) s2).bind fun r=>
    if(!r.1)then
    (some r.2)
    else
    ((ic from1 yld nx i tl1) (i1+1) r.2))
    else
    ((ic from1 yld nx i tl1) (i1+1) s2)

def ie{Sg:Type}(from1:Int)(yld:(Int×Int)→Sg→Option (Bool×Sg)):List cT→Nat→Sg→Option Sg
 |[],i,s1=>
  some s1
 |e2::tl,i,s1=>
  ic from1 yld (ie from1 yld tl) i e2.Nodes 0 s1

def pi{Sg:Type}(p:cZ)(from1:Int)(yld:(Int×Int)→Sg→Option (Bool×Sg))(s:Sg):Option Sg:=
 ie from1 yld p.Frags 0 s

def nB(p:cZ)(from1:Int):Option (It (Int×Int)):=
 some (fun _=>pi p from1)

def em(s2:(List Int)):List Int→Nat→Option Bool
 |[],i=>
  some true
 |e::tl,i=>
  (eZ s2 (i:Int)).bind fun e1=>
  if(e !=e1)then
  (some false)
  else
  ((em s2 tl) (i+1))

def ew(s1:(List Int))(s2:(List Int)):Option Bool:=
 if((s1.length:Int) !=(s2.length:Int))then
 (some false)
 else
 (em s2 s1 0)

def dl(p:(Option bI))(frag:Int):Option (List Int):=
 (p).bind fun p1=>
 (eZ p1.kinds frag).bind fun e=>
 (eZ e (IntKind.i64.wrap ((e.length:Int)-(1:Int)))).bind fun e1=>
 some e1

def d8(p:(Option bI))(x:Int×Int)(one:Bool)(many:Int):Option (Bool×Int):=
 (p).bind fun p3=>
 (eZ p3.Plan.Frags x.1).bind fun e2=>
 some ((e2.At==(2:Int)),(IntKind.i64.wrap (many+(1:Int))))

def eT(p:(Option bI))(at1:Int)(e:cT):List aF→Option Bool
  |[]=>
    (p).bind fun p2=>
    (nB p2.Plan at1).bind fun it=>
    (it (Bool×Int) (sq (fun x s=>d8 p x s.1 s.2)) (false,(0:Int))).bind fun(x1,x2)=>
    (p).bind fun p4=>
    if(at1==(IntKind.i64.wrap ((p4.Plan.Frags.length:Int)-(1:Int))))then
    ((if(((e.Way==(4:Int))&&(e.At==(2:Int)))&&(x2==(0:Int)))then((dl p at1).bind fun r=>
    (da r (4:Int)).bind fun r1=>
    some (!r1))else some false).bind fun t=>
    some t)
    else
    (some (((e.Way !=(4:Int))&&(x2==(1:Int)))&&((e.Way==(3:Int))==x1)))
  |e1::tl=>
    (if(e1.Op==(9:Int))then((if(!(decide (at1≤e1.Table)))then((dl p e1.Table).bind fun r2=>
    (ew e1.Kinds r2).bind fun r3=>
    some (!r3))else some true).bind fun t2=>
    some t2)else some false).bind fun t1=>
    if t1 then
    (some false)
    else
    ((eT p at1 e tl))

def jV(p:(Option bI))(at1:Int):Option Bool:=
 (p).bind fun p1=>
 (eZ p1.Plan.Frags at1).bind fun e=>
 eT p at1 e e.Nodes

def lB(x:bI):List cT→Nat→Option ((Option bI)×Int×Int×Int)
 |[],i1=>
  some ((some x),(0:Int),(0:Int),(0:Int))
 |e1::tl1,i1=>
  (jV (some x) (i1:Int)).bind fun r1=>
  if(!r1)then
  (some ((none:(Option bI)),(i1:Int),(0:Int),(290:Int)))
  else
  ((lB x tl1) (i1+1))

def lC(q:cZ):List cT→Nat→bI→Option ((Option bI)×Int×Int×Int)
  |[],i,x=>
    lB x q.Frags 0
  |e::tl,i,x=>
    (lT e.Nodes).bind fun r2=>
    if(r2.2.2 !=(0:Int))then
    (some ((none:(Option bI)),(i:Int),r2.2.1,r2.2.2))
    else
    ((eZ r2.1 (IntKind.i64.wrap ((r2.1.length:Int)-(1:Int)))).bind fun e2=>
    (kI (some x) e e2).bind fun r3=>
    if(!r3)then
    (some ((none:(Option bI)),(i:Int),(0:Int),(291:Int)))
    else
    ((nS x.kinds ([r2.1])).bind fun l1=>
    (lC q tl) (i+1) ({x with kinds:=l1}:bI)))

def jW(q:cZ)(c:bA):Option ((Option bI)×Int×Int×Int):=
  (nt c).bind fun r=>
  if(r !=(0:Int))then
  (some ((none:(Option bI)),(0:Int),(0:Int),r))
  else
  (if((decide ((q.Frags.length:Int)<(1:Int)))||(decide ((30:Int)<(q.Frags.length:Int))))then
  (some ((none:(Option bI)),(0:Int),(0:Int),(290:Int)))
  else
  (lC q q.Frags 0 ({(⟨q,c,[]⟩:bI)with kinds:=([]:List (List (List Int)))}:bI)))

def oC(p:cZ)(c:bA):Option (Int×Int×Int):=
 (jW p c).bind fun r=>
 some (r.2.1,r.2.2.1,r.2.2.2)

def kQ(l:(Option cq)):Option bu:=
  (l).bind fun p=>
  (p.checker).bind fun p1=>
  (l).bind fun p2=>
  (eZ p1.c.Tables p2.n.Table).bind fun e=>
  if(decide ((0:Int)<(e.Keys.length:Int)))then
  ((cA e.Keys).bind fun r=>
  some (⟨(2:Int),r⟩:bu))
  else
  (some (⟨(1:Int),[]⟩:bu))

def kg(l:(Option cq)):Option bu:=
  (l).bind fun p=>
  (p.checker).bind fun p1=>
  (l).bind fun p2=>
  (eZ p1.Plan.Frags p2.n.Table).bind fun e=>
  if(e.Way==(1:Int))then
  ((cA e.Cols).bind fun r=>
  some (⟨(2:Int),r⟩:bu))
  else
  (some (⟨(3:Int),[]⟩:bu))

def kf(l:(Option cq)):Option bu:=
  (l).bind fun p=>
  (if(p.a_.Kind==(2:Int))then((l).bind fun p1=>
  some (p1.b.Kind==(2:Int)))else some false).bind fun t=>
  (if t then((l).bind fun p2=>
  (l).bind fun p3=>
  (ew p2.a_.Cols p3.b.Cols).bind fun r=>
  some r)else some false).bind fun t1=>
  if t1 then
  ((l).bind fun p4=>
  some p4.a_)
  else
  (some (⟨(1:Int),[]⟩:bu))

def kR(at1:(Int→Option Int)):List Int→(List Int)→bu→Option bu
  |[],cols,x=>
    some (⟨(2:Int),cols⟩:bu)
  |e::tl,cols,x=>
    (at1 e).bind fun r=>
    if(decide (r<(0:Int)))then
    (some (⟨(1:Int),[]⟩:bu))
    else
    ((nS cols ([r])).bind fun cols1=>
    (kR at1 tl) cols1 x)

def nD(p:bu)(at1:(Int→Option Int)):Option bu:=
 if(p.Kind !=(2:Int))then
 (some p)
 else
 (kR at1 p.Cols ([]:List Int) (⟨(0:Int),[]⟩:bu))

def cN(f:(bo→Option Bool)):List bo→Nat→Option Int
 |[],i=>
  some (-1:Int)
 |e::tl,i=>
  (f e).bind fun r=>
  if r then
  (some (i:Int))
  else
  ((cN f tl) (i+1))

def dP(s:(List bo))(f:(bo→Option Bool)):Option Int:=
 cN f s 0

def d7(c:Int)(e:bo):Option Bool:=
  (if((e.Nodes.length:Int)==(1:Int))then((eZ e.Nodes (0:Int)).bind fun e1=>
  some (e1.Tag==(2:Int)))else some false).bind fun t=>
  (if t then((eZ e.Nodes (0:Int)).bind fun e2=>
  some (e2.Col==c))else some false).bind fun t1=>
  some t1

def jp(l:(Option cq))(c:Int):Option Int:=
 (l).bind fun p=>
 (dP p.n.Items (d7 c)).bind fun r=>
 some r

def iS(l:(Option cq)):Option bu:=
 (l).bind fun p=>
 (nD p.a_ (jp l)).bind fun r=>
 some r

def kH(l:(Option cq))(c:Int):Option Int:=
 (l).bind fun p=>
 (gA p.n.Keys c).bind fun r=>
 some r

def dA(l:(Option cq)):Option bu:=
 (l).bind fun p=>
 (nD p.a_ (kH l)).bind fun r=>
 some r

def dj(l:(Option cq)):Option bu:=
 (l).bind fun p=>
 some p.a_

def nC:Option (List (Int×((Option cq)→Option bu))):=
 some (fA (fA (fA (fA (fA (fA (fA (fA (fA (fA (fA ([]:List (Int×((Option cq)→Option bu))) (1:Int) kQ) (9:Int) kg) (7:Int) kf) (5:Int) iS) (4:Int) dA) (10:Int) dA) (11:Int) dA) (3:Int) dj) (6:Int) dj) (8:Int) dj) (2:Int) dj)

def f8(nx:(List bu)→Option (List bu))(out:List bu)(x2:bu):Option (List bu):=
 (nS out ([x2])).bind fun out1=>
 nx out1

def f9(e:cT)(r:(List (Int×((Option cq)→Option bu))))(nx:(List bu)→Option (List bu))(e1:aF)(out:List bu)(x1:cq):Option (List bu):=
  if(e.At==(1:Int))then
  ((((kE r e1.Op).getD (fun _=>none)) (some x1)).bind fun r1=>
  f8 nx out r1)
  else
  (f8 nx out (⟨(4:Int),[]⟩:bu))

def eU(e:cT)(r:(List (Int×((Option cq)→Option bu))))(nx:(List bu)→Option (List bu))(e1:aF)(out:List bu)(x:cq):Option (List bu):=
  if(decide ((0:Int)≤e1.B))then
  ((eZ out e1.B).bind fun e2=>
  f9 e r nx e1 out (cq.mk x.checker x.n x.a_ e2))
  else
  (f9 e r nx e1 out x)

def cC(p:(Option bI))(e:cT)(r:(List (Int×((Option cq)→Option bu)))):List aF→(List bu)→Option (List bu)
  |[],out=>
    some out
  |e1::tl,out=>
    if(decide ((0:Int)≤e1.A))then
    ((eZ out e1.A).bind fun e3=>
    eU e r (cC p e r tl) e1 out (cq.mk (⟨p,e1,(⟨(0:Int),[]⟩:bu),(⟨(0:Int),[]⟩:bu)⟩:cq).checker (⟨p,e1,(⟨(0:Int),[]⟩:bu),(⟨(0:Int),[]⟩:bu)⟩:cq).n e3 (⟨p,e1,(⟨(0:Int),[]⟩:bu),(⟨(0:Int),[]⟩:bu)⟩:cq).b))
    else
    (eU e r (cC p e r tl) e1 out (⟨p,e1,(⟨(0:Int),[]⟩:bu),(⟨(0:Int),[]⟩:bu)⟩:cq))

def iv(p:(Option bI))(frag:Int):Option (List bu):=
 (p).bind fun p1=>
 (eZ p1.Plan.Frags frag).bind fun e=>
 (nC).bind fun r=>
 cC p e r e.Nodes ([]:List bu)

def qY(x:Int×Int)(x1:Bool)(x2:Int)(x3:Int):Option (Option Nat×(Bool×Int×Int)):=
 some (some 0,(true,x.2,x.1))

def me(p:cZ)(from1:Int):Option (Int×Int×Bool):=
 (nB p from1).bind fun it=>
 ((itU it) (Option Nat×(Bool×Int×Int)) (zT (fun x s=>qY x s.1 s.2.1 s.2.2)) (none,(false,(0:Int),(0:Int)))).bind fun r=>
 if r.1.1.isNone then
 (some ((0:Int),(0:Int),false))
 else
 (some (r.1.2.2.2,r.1.2.2.1,r.1.2.1))

def lr(place:Int)(n:aF):Option Bool:=
 some ((n.A==place)||(n.B==place))

def mF(p:(Option bI))(frag:Int):Option aF:=
  (p).bind fun p1=>
  (me p1.Plan frag).bind fun r=>
  if(!r.2.2)then
  (some (⟨(0:Int),(0:Int),(0:Int),(0:Int),[],false,(⟨[]⟩:bo),[],[],[],[],(0:Int)⟩:aF))
  else
  ((p).bind fun p2=>
  (eZ p2.Plan.Frags r.1).bind fun e=>
  (dz e.Nodes (lr r.2.1)).bind fun r1=>
  if(decide (r1<(0:Int)))then
  (some (⟨(0:Int),(0:Int),(0:Int),(0:Int),[],false,(⟨[]⟩:bo),[],[],[],[],(0:Int)⟩:aF))
  else
  ((p).bind fun p3=>
  (eZ p3.Plan.Frags r.1).bind fun e1=>
  (eZ e1.Nodes r1).bind fun e2=>
  some e2))

def cX(s2:(List gc))(eq:(gc→gc→Option Bool)):List gc→Nat→Option Bool
 |[],i=>
  some true
 |e::tl,i=>
  (eZ s2 (i:Int)).bind fun e1=>
  (eq e e1).bind fun r=>
  if(!r)then
  (some false)
  else
  ((cX s2 eq tl) (i+1))

def eL(s1:(List gc))(s2:(List gc))(eq:(gc→gc→Option Bool)):Option Bool:=
 if((s1.length:Int) !=(s2.length:Int))then
 (some false)
 else
 (cX s2 eq s1 0)

def nE(p:gc)(y:gc):Option Bool:=
 some (p.Tag==y.Tag)

def ei(f:(bt→Option Bool)):List bt→Nat→Option Int
 |[],i=>
  some (-1:Int)
 |e::tl,i=>
  (f e).bind fun r=>
  if r then
  (some (i:Int))
  else
  ((ei f tl) (i+1))

def gW(s:(List bt))(f:(bt→Option Bool)):Option Int:=
 ei f s 0

def gk(s:(List bt))(f:(bt→Option Bool)):Option Bool:=
 (gW s f).bind fun r=>
 some (decide ((0:Int)≤r))

def vH(n:bt):Option Bool:=
 (nR n.Tag).bind fun r=>
 some r

def zI(e:bo):Option Bool:=
  (lX e).bind fun r=>
  (if(r==(0:Int))then((gk e.Nodes vH).bind fun r1=>
  some (!r1))else some false).bind fun t=>
  some t

def fJ(s:(List bt)):Option (List bt):=
 (nS ([]:List bt) s).bind fun x=>
 some x

def ql(nx:(List bo)→(List Int)→Option (List bo))(out1:List bo)(open2:List Int):Option (List bo):=
 nx out1 open2

def qk(e3:Int)(nx1:Nat→bo→Option (List bo))(i:Nat)(part1:bo):Option (List bo):=
  (eZ part1.Nodes (i:Int)).bind fun e6=>
  if(decide ((0:Int)≤e6.R))then
  ((some (part1.Nodes.set (i:Int).toNat ({e6 with R:=(IntKind.i64.wrap (e6.R-e3))}:bt))).bind fun st=>
  nx1 (i+1) ({part1 with Nodes:=st}:bo))
  else
  (nx1 (i+1) part1)

def mL(nx:(List bo)→(List Int)→Option (List bo))(out:List bo)(y:List Int)(e3:Int):List bt→Nat→bo→Option (List bo)
  |[],i,part=>
    (nS out ([part])).bind fun out2=>
    ql nx out2 y
  |e4::tl,i,part=>
    (eZ part.Nodes (i:Int)).bind fun e5=>
    if(decide ((0:Int)≤e5.L))then
    ((some (part.Nodes.set (i:Int).toNat ({e5 with L:=(IntKind.i64.wrap (e5.L-e3))}:bt))).bind fun st1=>
    qk e3 (mL nx out y e3 tl) i ({part with Nodes:=st1}:bo))
    else
    (qk e3 (mL nx out y e3 tl) i part)

def j6(e:bo)(r:(List Int)×Bool):Nat→(List bo)→(List Int)→Option (List bo)
  |0,_,_=>none
  |n+1,out,open1=>
    if(decide ((0:Int)<(open1.length:Int)))then
    ((eZ open1 (IntKind.i64.wrap ((open1.length:Int)-(1:Int)))).bind fun e1=>
    (cz open1 0 (IntKind.i64.wrap ((open1.length:Int)-(1:Int)))).bind fun y=>
    (eZ e.Nodes e1).bind fun e2=>
    if(e2.Tag==(22:Int))then
    ((nS y ([e2.R,e2.L])).bind fun open3=>
    ql (j6 e r n) out open3)
    else
    ((eZ r.1 e1).bind fun e3=>
    (cz e.Nodes e3 (IntKind.i64.wrap (e1+(1:Int)))).bind fun y1=>
    (fJ y1).bind fun r1=>
    mL (j6 e r n) out y e3 r1 0 ({(⟨r1⟩:bo)with Nodes:=r1}:bo)))
    else
    (some out)

def zK(e:bo):Option (List bo):=
 (o5 e).bind fun r=>
 if(!r.2)then
 (some ([]:List bo))
 else
 (j6 e r OX ([]:List bo) ([(IntKind.i64.wrap ((e.Nodes.length:Int)-(1:Int)))]))

def zJ(e:bo)(left:Int):Option (Int×Int×Bool):=
  (lX e).bind fun r=>
  (if(!((r !=(0:Int))||((e.Nodes.length:Int) !=(3:Int))))then((eZ e.Nodes (2:Int)).bind fun e1=>
  some (e1.Tag !=(16:Int)))else some true).bind fun t=>
  if t then
  (some ((0:Int),(0:Int),false))
  else
  ((eZ e.Nodes (0:Int)).bind fun e2=>
  (eZ e.Nodes (1:Int)).bind fun e3=>
  if((e2.Tag !=(2:Int))||(e3.Tag !=(2:Int)))then
  (some ((0:Int),(0:Int),false))
  else
  (if((decide (left≤(min e2.Col e3.Col)))||(decide ((max e2.Col e3.Col)<left)))then
  (some ((0:Int),(0:Int),false))
  else
  (some ((min e2.Col e3.Col),(IntKind.i64.wrap ((max e2.Col e3.Col)-left)),true))))

def oz(b:bu)(held:List ((Int×Int)×Bool)):List Int→Nat→Option Bool
 |[],i1=>
  some true
 |e1::tl1,i1=>
  (eZ b.Cols (i1:Int)).bind fun e2=>
  if(!((kE held (k2 ([e1,e2]))).getD false))then
  (some false)
  else
  ((oz b held tl1) (i1+1))

def mE(a1:bu)(b:bu)(left:Int):List bo→(List ((Int×Int)×Bool))→Option Bool
 |[],held=>
  oz b held a1.Cols 0
 |e::tl,held=>
  (zJ e left).bind fun r2=>
  if r2.2.2 then
  ((mE a1 b left tl) (fA held (k2 ([r2.1,r2.2.1])) true))
  else
  ((mE a1 b left tl) held)

def vy(n:aF)(a1:bu)(b:bu)(left:Int):Option Bool:=
  if(b.Kind==(3:Int))then
  (some (a1.Kind !=(3:Int)))
  else
  ((if(!(((a1.Kind !=(2:Int))||(b.Kind !=(2:Int)))||((a1.Cols.length:Int) !=(b.Cols.length:Int))))then((zI n.Cond).bind fun r=>
  some (!r))else some true).bind fun t=>
  if t then
  (some false)
  else
  ((zK n.Cond).bind fun r1=>
  mE a1 b left r1 ([]:List ((Int×Int)×Bool))))

def oA(keys:(List Int))(c:Int):Option Bool:=
 (da keys c).bind fun r=>
 some (!r)

def tB(a1:bu)(keys:(List Int)):Option Bool:=
  (if(a1.Kind==(2:Int))then((cU a1.Cols (oA keys)).bind fun r=>
  some (!r))else some false).bind fun t=>
  some t

def fU(s2:(List iC)):List iC→Nat→Option Bool
 |[],i=>
  some true
 |e::tl,i=>
  (eZ s2 (i:Int)).bind fun e1=>
  if(!decide (e=e1))then
  (some false)
  else
  ((fU s2 tl) (i+1))

def ke(s1:(List iC))(s2:(List iC)):Option Bool:=
 if((s1.length:Int) !=(s2.length:Int))then
 (some false)
 else
 (fU s2 s1 0)

def kC(p:(Option bI))(frag:Int)(e:cT)(e1:aF)(e2:bu)(x:Bool):Option Bool:=
  if x then
  ((tB e2 e1.Keys).bind fun r1=>
  some r1)
  else
  (if(e1.Op==(6:Int))then
  (some (e2.Kind==(2:Int)))
  else
  (if(e1.Op==(10:Int))then
  (some (e2.Kind !=(3:Int)))
  else
  (if(e1.Op==(8:Int))then
  ((mF p frag).bind fun r2=>
  (if((((e2.Kind !=(3:Int))&&(e.Way==(3:Int)))&&(r2.Op==(8:Int)))&&(r2.Limit==e1.Limit))then((ke r2.Order e1.Order).bind fun r3=>
  some r3)else some false).bind fun t1=>
  some t1)
  else
  (some true))))

def kD(p:(Option bI))(frag:Int)(l:(List bu))(e:cT)(e1:aF):Option Bool:=
  if((e.At==(2:Int))||(decide (e1.A<(0:Int))))then
  (some true)
  else
  ((eZ l e1.A).bind fun e2=>
  if(e1.Op==(2:Int))then
  ((eZ l e1.B).bind fun e3=>
  (p).bind fun p2=>
  (eZ p2.kinds frag).bind fun e4=>
  (eZ e4 e1.A).bind fun e5=>
  (vy e1 e2 e3 (e5.length:Int)).bind fun r=>
  some r)
  else
  (if(e1.Op==(7:Int))then
  ((if(e2.Kind !=(3:Int))then((eZ l e1.B).bind fun e6=>
  some (e6.Kind !=(3:Int)))else some false).bind fun t=>
  some t)
  else
  (if(e1.Op==(4:Int))then
  (kC p frag e e1 e2 (e1.Op==(4:Int)))
  else
  (kC p frag e e1 e2 (e1.Op==(11:Int))))))

def oB(p:(Option bI))(frag:Int)(at1:Int)(l:(List bu)):Option Bool:=
  (p).bind fun p1=>
  (eZ p1.Plan.Frags frag).bind fun e=>
  (eZ e.Nodes at1).bind fun e1=>
  if(e1.Op==(10:Int))then
  ((mF p frag).bind fun r4=>
  (eL e1.Aggs r4.Aggs nE).bind fun r5=>
  if(((r4.Op !=(11:Int))||(!r5))||((e1.Keys.length:Int) !=(r4.Keys.length:Int)))then
  (some false)
  else
  (kD p frag l e e1))
  else
  (kD p frag l e e1)

def nq(frag:Int)(place:Int):Option (Int×Int×Int):=
 if(decide ((0:Int)≤frag))then
 (some (frag,place,(280:Int)))
 else
 (some ((0:Int),(0:Int),(0:Int)))

def pj(r:(Option bI)×Int×Int×Int)(nx:Nat→Int→Int→Option (Int×Int×Int))(i:Nat)(r1:(List bu)):List aF→Nat→Int→Int→Option (Int×Int×Int)
 |[],i1,frag2,place2=>
  (eZ r1 (IntKind.i64.wrap ((r1.length:Int)-(1:Int)))).bind fun e2=>
  if(e2.Kind==(3:Int))then
  (nq (i:Int) (IntKind.i64.wrap ((r1.length:Int)-(1:Int))))
  else
  (nx (i+1) frag2 place2)
 |e1::tl1,i1,frag2,place2=>
  (oB r.1 (i:Int) (i1:Int) r1).bind fun r2=>
  if(!r2)then
  (nq (i:Int) (i1:Int))
  else
  ((pj r nx i r1 tl1) (i1+1) frag2 place2)

def np(r:(Option bI)×Int×Int×Int):List cT→Nat→Int→Int→Option (Int×Int×Int)
 |[],i,frag1,place1=>
  nq frag1 place1
 |e::tl,i,frag1,place1=>
  (iv r.1 (i:Int)).bind fun r1=>
  pj r (np r tl) i r1 e.Nodes 0 frag1 place1

def xp(q:cZ)(c:bA):Option (Int×Int×Int):=
 (jW q c).bind fun r=>
 if(r.2.2.2 !=(0:Int))then
 (some (r.2.1,r.2.2.1,r.2.2.2))
 else
 (np r q.Frags 0 (-1:Int) (0:Int))

def m4(q:cZ)(c:bA)(frag:Int):Option ((List bu)×Int):=
  (jW q c).bind fun r=>
  if(r.2.2.2 !=(0:Int))then
  (some ([],r.2.2.2))
  else
  (if((decide (frag<(0:Int)))||(decide ((q.Frags.length:Int)≤frag)))then
  (some ([],(2:Int)))
  else
  ((iv r.1 frag).bind fun r1=>
  some (r1,(0:Int))))

def vE:Option (bA×cZ):=
 some ((⟨[(⟨[116],[(⟨[97],(2:Int)⟩:aV),(⟨[98],(2:Int)⟩:aV)],[(0:Int)]⟩:bp)]⟩:bA),(⟨[(⟨[(⟨(1:Int),(-1:Int),(-1:Int),(0:Int),[(2:Int),(2:Int)],false,(⟨[]⟩:bo),[],[],[],[],(0:Int)⟩:aF),(⟨(6:Int),(0:Int),(-1:Int),(0:Int),[],false,(⟨[]⟩:bo),[],[],[],[],(0:Int)⟩:aF)],(1:Int),(3:Int),[]⟩:cT),(⟨[(⟨(9:Int),(-1:Int),(-1:Int),(0:Int),[(2:Int),(2:Int)],false,(⟨[]⟩:bo),[],[],[],[],(0:Int)⟩:aF)],(2:Int),(4:Int),[]⟩:cT)]⟩:cZ))

def q5:Option Bool:=
  (vE).bind fun r=>
  (xp r.2 r.1).bind fun r1=>
  (m4 r.2 r.1 (0:Int)).bind fun r2=>
  (oC (⟨[]⟩:cZ) r.1).bind fun r3=>
  (me r.2 (0:Int)).bind fun r4=>
  (if(((((((r1.2.2==(0:Int))&&(r2.2==(0:Int)))&&(r3.2.2==(290:Int)))&&r4.2.2)&&(r4.1==(1:Int)))&&(r4.2.1==(0:Int)))&&((r2.1.length:Int)==(2:Int)))then((eZ r2.1 (1:Int)).bind fun e=>
  some (e.Kind==(2:Int)))else some false).bind fun t=>
  (if t then((eZ r2.1 (1:Int)).bind fun e1=>
  some ((e1.Cols.length:Int)==(1:Int)))else some false).bind fun t1=>
  some t1

def jq(l:(List bp))(most:Int):Option (List bp):=
 (cz l 0 (min (l.length:Int) most)).bind fun y=>
 (nS ([]:List bp) y).bind fun x=>
 some x

def gH(l:(List aV))(most:Int):Option (List aV):=
 (cz l 0 (min (l.length:Int) most)).bind fun y=>
 (nS ([]:List aV) y).bind fun x=>
 some x

def eF(l:(List Int))(most:Int):Option (List Int):=
 (cz l 0 (min (l.length:Int) most)).bind fun y=>
 (nS ([]:List Int) y).bind fun x=>
 some x

def kW:List bp→Nat→bA→Option bA
 |[],i,out=>
  some out
 |e::tl,i,out=>
  (eZ out.Tables (i:Int)).bind fun e1=>
  (eZ out.Tables (i:Int)).bind fun e2=>
  (gH e2.Columns (5:Int)).bind fun r1=>
  (eF e2.Keys (5:Int)).bind fun r2=>
  (some (out.Tables.set (i:Int).toNat ({e2 with Columns:=r1}:bp))).bind fun st=>
  (eZ st (i:Int)).bind fun e3=>
  (some (st.set (i:Int).toNat ({e3 with Keys:=r2}:bp))).bind fun st1=>
  (kW tl) (i+1) ({out with Tables:=st1}:bA)

def oY(c:bA):Option bA:=
 (jq c.Tables (5:Int)).bind fun r=>
 kW r 0 ({(⟨r⟩:bA)with Tables:=r}:bA)

def jr(l:(List aF))(most:Int):Option (List aF):=
 (cz l 0 (min (l.length:Int) most)).bind fun y=>
 (nS ([]:List aF) y).bind fun x=>
 some x

def kJ(l:(List gc))(most:Int):Option (List gc):=
 (cz l 0 (min (l.length:Int) most)).bind fun y=>
 (nS ([]:List gc) y).bind fun x=>
 some x

def jZ(l:(List bo))(most:Int):Option (List bo):=
 (cz l 0 (min (l.length:Int) most)).bind fun y=>
 (nS ([]:List bo) y).bind fun x=>
 some x

def iW(l:(List iC))(most:Int):Option (List iC):=
 (cz l 0 (min (l.length:Int) most)).bind fun y=>
 (nS ([]:List iC) y).bind fun x=>
 some x

def js(l:(List bt))(most:Int):Option (List bt):=
 (cz l 0 (min (l.length:Int) most)).bind fun y=>
 (nS ([]:List bt) y).bind fun x=>
 some x

def kX:List bt→Nat→bo→Option bo
 |[],i,out=>
  some out
 |e1::tl,i,out=>
  (eZ out.Nodes (i:Int)).bind fun e2=>
  (cz e2.Value.S 0 (min (e2.Value.S.length:Int) (41:Int))).bind fun y=>
  (some (out.Nodes.set (i:Int).toNat ({e2 with Value:=({e2.Value with S:=y}:cP)}:bt))).bind fun st=>
  (kX tl) (i+1) ({out with Nodes:=st}:bo)

def mh(e:bo):Option bo:=
 (js e.Nodes (60:Int)).bind fun r=>
 kX r 0 ({(⟨r⟩:bo)with Nodes:=r}:bo)

def jC(nx:Nat→(List aF)→Option (List aF))(i:Nat)(out:List aF):List bo→Nat→aF→Option (List aF)
 |[],i2,n1=>
  (mh n1.Cond).bind fun r6=>
  (some (out.set (i:Int).toNat ({({({n1 with Cond:=r6}:aF)with Aggs:=n1.Aggs}:aF)with Items:=n1.Items}:aF))).bind fun st=>
  nx (i+1) st
 |e4::tl1,i2,n1=>
  (eZ n1.Items (i2:Int)).bind fun e5=>
  (eZ n1.Items (i2:Int)).bind fun e6=>
  (mh e6).bind fun r7=>
  (some (n1.Items.set (i2:Int).toNat r7)).bind fun st1=>
  (jC nx i out tl1) (i2+1) ({n1 with Items:=st1}:aF)

def jD(nx:Nat→(List aF)→Option (List aF))(i:Nat)(out:List aF):List gc→Nat→aF→Option (List aF)
 |[],i1,n=>
  jC nx i out n.Items 0 n
 |e3::tl,i1,n=>
  (eZ n.Aggs (i1:Int)).bind fun e7=>
  (eZ n.Aggs (i1:Int)).bind fun e8=>
  (mh e8.Arg).bind fun r8=>
  (some (n.Aggs.set (i1:Int).toNat ({e8 with Arg:=r8}:gc))).bind fun st2=>
  (jD nx i out tl) (i1+1) ({n with Aggs:=st2}:aF)

def gG:Nat→Nat→(List aF)→Option (List aF)
 |0,i,out=>
  some out
 |k1+1,i,out=>
  (eZ out (i:Int)).bind fun e1=>
  (eZ out (i:Int)).bind fun e2=>
  (eF e2.Kinds (17:Int)).bind fun r1=>
  (eF e2.Keys (6:Int)).bind fun r2=>
  (kJ e2.Aggs (14:Int)).bind fun r3=>
  (jZ e2.Items (17:Int)).bind fun r4=>
  (iW e2.Order (5:Int)).bind fun r5=>
  jD (gG k1) i out r3 0 ({({({(aF.mk e2.Op e2.A e2.B e2.Table r1 e2.Left e2.Cond r2 e2.Aggs e2.Items e2.Order e2.Limit)with Order:=r5}:aF)with Aggs:=r3}:aF)with Items:=r4}:aF)

def nF(l:(List aF)):Option (List aF):=
 (jr l (61:Int)).bind fun r=>
 gG r.length 0 r

def sV(r2:(List aF))(r5:Int×Int×Int):List bu→Nat→Option Bool
  |[],i1=>
    (if(!(r5.2.2==(0:Int)))then((eZ ((⟨r2,(2:Int),(4:Int),[]⟩:cT).Nodes) (IntKind.i64.wrap ((((⟨r2,(2:Int),(4:Int),[]⟩:cT).Nodes).length:Int)-(1:Int)))).bind fun e3=>
    some (e3.Op==(10:Int)))else some true).bind fun t=>
    some t
  |e2::tl1,i1=>
    (if(!(e2.Kind !=(4:Int)))then((eZ ((⟨r2,(2:Int),(4:Int),[]⟩:cT).Nodes) (i1:Int)).bind fun e4=>
    some ((e4.Op==(10:Int))&&(((r5.2.2 !=(280:Int))||(r5.1 !=(1:Int)))||(r5.2.1 !=(i1:Int)))))else some true).bind fun t1=>
    if t1 then
    (some false)
    else
    ((sV r2 r5 tl1) (i1+1))

def jY(l:(List cT))(most:Int):Option (List cT):=
 (cz l 0 (min (l.length:Int) most)).bind fun y=>
 (nS ([]:List cT) y).bind fun x=>
 some x

def mH:List cT→Nat→cZ→Option cZ
 |[],i,out=>
  some out
 |e::tl,i,out=>
  (eZ out.Frags (i:Int)).bind fun e1=>
  (eZ out.Frags (i:Int)).bind fun e2=>
  (nF e2.Nodes).bind fun r1=>
  (eF e2.Cols (17:Int)).bind fun r2=>
  (some (out.Frags.set (i:Int).toNat (cT.mk r1 e2.At e2.Way r2))).bind fun st=>
  (mH tl) (i+1) ({out with Frags:=st}:cZ)

def rF(p:cZ):Option cZ:=
 (jY p.Frags (31:Int)).bind fun r=>
 mH r 0 ({(⟨r⟩:cZ)with Frags:=r}:cZ)

def iw(r6:(List (List Int))×Int×Int)(nx1:Nat→Option Bool)(i1:Nat):List Int→Option Bool
  |[]=>
    nx1 (i1+1)
  |e4::tl2=>
    (if(!(decide (e4<(0:Int))))then((eZ r6.1 (i1:Int)).bind fun e5=>
    some (decide ((e5.length:Int)≤e4)))else some true).bind fun t2=>
    if t2 then
    (some false)
    else
    ((iw r6 nx1 i1 tl2))

def fg(nx:Nat→(List ((Int×Int)×Bool))→Option Bool)(i:Nat)(met:List ((Int×Int)×Bool))(r4:Int×Int×Bool)(r6:(List (List Int))×Int×Int):List bu→Nat→Option Bool
 |[],i1=>
  nx (i+1) (fA met (k2 ([r4.1,r4.2.1])) true)
 |e3::tl1,i1=>
  if((e3.Kind==(2:Int)) !=(decide ((0:Int)<(e3.Cols.length:Int))))then
  (some false)
  else
  (iw r6 (fg nx i met r4 r6 tl1) i1 e3.Cols)

def eC(r1:bA)(r2:cZ):List cT→Nat→(List ((Int×Int)×Bool))→Option Bool
  |[],i,met=>
    some true
  |e::tl,i,met=>
    (me r2 (i:Int)).bind fun r4=>
    if(r4.2.2 !=(decide ((i:Int)<(IntKind.i64.wrap ((r2.Frags.length:Int)-(1:Int))))))then
    (some false)
    else
    ((if r4.2.2 then((if(!((decide (r4.1≤(i:Int)))||((kE met (k2 ([r4.1,r4.2.1]))).getD false)))then((eZ r2.Frags r4.1).bind fun e1=>
    (eZ e1.Nodes r4.2.1).bind fun e2=>
    some (e2.Table !=(i:Int)))else some true).bind fun t1=>
    some t1)else some false).bind fun t=>
    if t then
    (some false)
    else
    ((m4 r2 r1 (i:Int)).bind fun r5=>
    (lT e.Nodes).bind fun r6=>
    if(((r5.2 !=(0:Int))||(r6.2.2 !=(0:Int)))||((r5.1.length:Int) !=(r6.1.length:Int)))then
    (some false)
    else
    (fg (eC r1 r2 tl) i met r4 r6 r5.1 0)))

def nP(p:bA)(y:cZ):Option Bool:=
  (q5).bind fun r=>
  if(!r)then
  (some false)
  else
  ((oY p).bind fun r1=>
  (rF y).bind fun r2=>
  (oC r2 r1).bind fun r3=>
  if(r3.2.2 !=(0:Int))then
  (some true)
  else
  (eC r1 r2 r2.Frags 0 ([]:List ((Int×Int)×Bool))))

def mb(v:cP):Option Bool:=
  if(v.Kind==(0:Int))then
  (some (decide (v=(⟨(0:Int),(0:Int),(0:Int),[]⟩:cP))))
  else
  (if(v.Kind==(1:Int))then
  (some (((v.U==(0:Int))&&(v.S==([])))&&((v.N==(0:Int))||(v.N==(1:Int)))))
  else
  (if(v.Kind==(2:Int))then
  (some ((v.U==(0:Int))&&(v.S==([]))))
  else
  (if(v.Kind==(3:Int))then
  (some (((v.N==(0:Int))&&(v.U==(0:Int)))&&(decide ((v.S.length:Int)≤(40:Int)))))
  else
  (some ((v.Kind==(4:Int))&&(v.S==([])))))))

def qX(v:cP):Option Bool:=
 (mb v).bind fun r=>
 some (r&&(v.Kind !=(4:Int)))

def lh(n:bt):Option Bool:=
  if(n.Tag==(1:Int))then
  ((qX n.Value).bind fun r=>
  some (r&&(n.Col==(0:Int))))
  else
  (if(n.Tag==(2:Int))then
  (some (((decide (n.Value=(⟨(0:Int),(0:Int),(0:Int),[]⟩:cP)))&&(decide ((0:Int)≤n.Col)))&&(decide (n.Col<(16:Int)))))
  else
  (some ((decide (n.Value=(⟨(0:Int),(0:Int),(0:Int),[]⟩:cP)))&&(n.Col==(0:Int)))))

def ow(k:Int)(want:Int):Option Bool:=
 some ((k==want)||(k==(0:Int)))

def xl(tag:Int)(l:Int)(r:Int):Option (Int×Bool):=
  if((tag==(4:Int))||((decide ((12:Int)≤tag))&&(decide (tag≤(15:Int)))))then
  ((ow l (2:Int)).bind fun r1=>
  (if r1 then((ow r (2:Int)).bind fun r2=>
  some r2)else some false).bind fun t=>
  some ((2:Int),t))
  else
  (if((tag==(5:Int))||(decide ((22:Int)≤tag)))then
  ((ow l (1:Int)).bind fun r3=>
  (if r3 then((ow r (1:Int)).bind fun r4=>
  some r4)else some false).bind fun t1=>
  some ((1:Int),t1))
  else
  (if((tag==(6:Int))||(tag==(7:Int)))then
  (some ((1:Int),true))
  else
  (some ((1:Int),(((l==r)||(l==(0:Int)))||(r==(0:Int)))))))

end Go.Proofs.YtmogpgcfognefaaGreatDoor

