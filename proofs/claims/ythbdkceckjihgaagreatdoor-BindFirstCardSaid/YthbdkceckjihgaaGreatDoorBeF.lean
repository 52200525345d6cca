/- cu of this claim: F. -/
import Derived.Test.YthbdkceckjihgaaGreatDoorBeD
import Derived.Test.YthbdkceckjihgaaGreatDoorBeV4
import Derived.Lib.MapU
set_option linter.all false
namespace Go.Proofs.YthbdkceckjihgaaGreatDoor
open Go

def ud(c:Int):Option Bool:=
 some ((decide ((97:Int)<=c))&&(decide (c<=(122:Int))))

def dd(v:bZ):List bZ->Nat->Option Int
 |[],i=>
  some (-1:Int)
 |e::tl,i=>
  if(v==e)then
  (some (i:Int))
  else
  ((dd v tl) (i+1))

def eb(s:(List bZ))(v:bZ):Option Int:=
 dd v s 0

def ej(s:(List bZ))(v:bZ):Option Bool:=
 (eb s v).bind fun r=>
 some (decide ((0:Int)<=r))

def uK(s:bZ):Option Bool:=
 (ej U5 s).bind fun r=>
 some r

def i7(s:bZ):Option bZ:=if s.length<35184372088832 then some (Lib.toUpperD s)else none

def xk(c:Int):Option Bool:=
 some ((decide ((48:Int)<=c))&&(decide (c<=(57:Int))))

def nF:List (Int×Int)->Option Bool
  |[]=>
    some true
  |e::tl=>
    (xk e.2).bind fun r3=>
    (if(!r3)then((ud e.2).bind fun r4=>
    some (!r4))else some false).bind fun t2=>
    if(t2&&(e.2 !=(95:Int)))then
    (some false)
    else
    ((nF tl))

def jI(s:bZ):Option Bool:=
  (if(!((s==([]))||(decide ((16:Int)<(s.length:Int)))))then((qO s (0:Int)).bind fun b=>
  (ud (IntKind.i32.wrap b)).bind fun r=>
  some (!r))else some true).bind fun t=>
  (if(!t)then((i7 s).bind fun r1=>
  (uK r1).bind fun r2=>
  some r2)else some true).bind fun t1=>
  if t1 then
  (some false)
  else
  (nF (IM s))

def cq(f:(bl->Option Bool)):List bl->Nat->Option Int
 |[],i=>
  some (-1:Int)
 |e::tl,i=>
  (f e).bind fun r=>
  if r then
  (some (i:Int))
  else
  ((cq f tl) (i+1))

def fq(s:(List bl))(f:(bl->Option Bool)):Option Int:=
 cq f s 0

def ep(of:(bl->Option bZ))(name:bZ)(p:bl):Option Bool:=
 (of p).bind fun r=>
 some (r==name)

def iT(l:(List bl))(of:(bl->Option bZ))(name:bZ):Option (Int×Bool):=
 (fq l (ep of name)).bind fun r=>
 some ((max r (0:Int)),decide ((0:Int)<=r))

def fA(l:(List bl))(of:(bl->Option bZ)):List bl->Nat->Option Bool
  |[],i=>
    some true
  |e::tl,i=>
    (of e).bind fun r=>
    (iT l of r).bind fun r1=>
    (if(!(r1.1 !=(i:Int)))then((of e).bind fun r2=>
    (jI r2).bind fun r3=>
    some (!r3))else some true).bind fun t=>
    if t then
    (some false)
    else
    ((fA l of tl) (i+1))

def kU(l:(List bl))(of:(bl->Option bZ)):Option Bool:=
 fA l of l 0

def ew(c:bl):Option bZ:=
 some c.Name

def jb(kind:Int):Nat->Nat->Option bZ
 |0,i=>
  some ([])
 |k1+1,i=>
  (fg U6 (i:Int)).bind fun e1=>
  if(e1.kind==kind)then
  (some e1.word)
  else
  ((jb kind k1) (i+1))

def rr(kind:Int):Option bZ:=
 jb kind 3 0

def eX(t:bp):List Int->Nat->Bool->Option Int
  |[],i1,ok1=>
    if(!ok1)then
    (some (211:Int))
    else
    (some (0:Int))
  |e1::tl1,i1,ok1=>
    (if((ok1&&(decide ((0:Int)<=e1)))&&(decide (e1<(t.Columns.length:Int))))then((if(!((i1:Int)==(0:Int)))then((fg t.Keys (IntKind.i64.wrap ((i1:Int)-(1:Int)))).bind fun e2=>
    some (decide (e2<e1)))else some true).bind fun t3=>
    some t3)else some false).bind fun t2=>
    (eX t tl1) (i1+1) t2

def f6(t:bp):List bl->Bool->Option Int
  |[],ok=>
    eX t t.Keys 0 ok
  |e::tl,ok=>
    (if ok then((rr e.Kind).bind fun r2=>
    some (!(r2==([]))))else some false).bind fun t4=>
    (f6 t tl) t4

def lJ(t:bp):Option Int:=
  (jI t.Name).bind fun r=>
  (if((r&&(decide ((1:Int)<=(t.Columns.length:Int))))&&(decide ((t.Columns.length:Int)<=(4:Int))))then((kU t.Columns ew).bind fun r1=>
  some r1)else some false).bind fun t1=>
  f6 t t.Columns t1

def jX(t:bp):Option Bool:=
 (lJ t).bind fun r=>
 some (r !=(0:Int))

def bj(f:(bp->Option Bool)):List bp->Nat->Option Int
 |[],i=>
  some (-1:Int)
 |e::tl,i=>
  (f e).bind fun r=>
  if r then
  (some (i:Int))
  else
  ((bj f tl) (i+1))

def cM(s:(List bp))(f:(bp->Option Bool)):Option Int:=
 bj f s 0

def fb(s:(List bp))(f:(bp->Option Bool)):Option Bool:=
 (cM s f).bind fun r=>
 some (decide ((0:Int)<=r))

def du(of:(bp->Option bZ))(name:bZ)(p:bp):Option Bool:=
 (of p).bind fun r=>
 some (r==name)

def fK(l:(List bp))(of:(bp->Option bZ))(name:bZ):Option (Int×Bool):=
 (cM l (du of name)).bind fun r=>
 some ((max r (0:Int)),decide ((0:Int)<=r))

def fR(l:(List bp))(of:(bp->Option bZ)):List bp->Nat->Option Bool
  |[],i=>
    some true
  |e::tl,i=>
    (of e).bind fun r=>
    (fK l of r).bind fun r1=>
    (if(!(r1.1 !=(i:Int)))then((of e).bind fun r2=>
    (jI r2).bind fun r3=>
    some (!r3))else some true).bind fun t=>
    if t then
    (some false)
    else
    ((fR l of tl) (i+1))

def lI(l:(List bp))(of:(bp->Option bZ)):Option Bool:=
 fR l of l 0

def dz(t:bp):Option bZ:=
 some t.Name

def qi(c:aq):Option Int:=
  (if(!(decide ((4:Int)<(c.Tables.length:Int))))then((fb c.Tables jX).bind fun r=>
  some r)else some true).bind fun t=>
  (if(!t)then((lI c.Tables dz).bind fun r1=>
  some (!r1))else some true).bind fun t1=>
  if t1 then
  (some (210:Int))
  else
  (some (0:Int))

def sr(n:Int):Option Bool:=
 some ((decide ((0:Int)<=n))&&(decide (n<=(2147483647:Int))))

def cP(f:(al->Option Bool)):List al->Nat->Option Int
 |[],i=>
  some (-1:Int)
 |e::tl,i=>
  (f e).bind fun r=>
  if r then
  (some (i:Int))
  else
  ((cP f tl) (i+1))

def fm(s:(List al))(f:(al->Option Bool)):Option Int:=
 cP f s 0

def dy(s:(List al))(f:(al->Option Bool)):Option Bool:=
 (fm s f).bind fun r=>
 some (decide ((0:Int)<=r))

def pX(s:bZ):Option Bool:=
  (if(!(s==([])))then((jI s).bind fun r=>
  some r)else some true).bind fun t=>
  some t

def sq(s:da):Option Bool:=
  (jI s.Table).bind fun r=>
  (if r then((pX s.As).bind fun r1=>
  some r1)else some false).bind fun t=>
  some t

def dS(f:(ce->Option Bool)):List ce->Nat->Option Int
 |[],i=>
  some (-1:Int)
 |e::tl,i=>
  (f e).bind fun r=>
  if r then
  (some (i:Int))
  else
  ((dS f tl) (i+1))

def gc(s:(List ce))(f:(ce->Option Bool)):Option Int:=
 dS f s 0

def fG(s:(List ce))(f:(ce->Option Bool)):Option Bool:=
 (gc s f).bind fun r=>
 some (decide ((0:Int)<=r))

def xz(tag:Int):Option Int:=
  if((decide (tag<(1:Int)))||(decide ((23:Int)<tag)))then
  (some (-1:Int))
  else
  (if(decide (tag<=(3:Int)))then
  (some (0:Int))
  else
  (if(decide (tag<=(11:Int)))then
  (some (1:Int))
  else
  (some (2:Int))))

def jC(v1:bO):Option bO:=
 some v1

def oO(v2:bO):Option bO:=
 jC (bO.mk (0:Int) v2.N v2.U v2.S)

def oN(v:bO):Option bO:=
 oO (bO.mk v.Kind (0:Int) v.U v.S)

def oM(v3:bO):Option bO:=
 jC v3

def vT(v:bO):Option bO:=
  if(v.Kind==(1:Int))then
  (if((v.N !=(0:Int))&&(v.N !=(1:Int)))then
  (jC v)
  else
  (oN v))
  else
  (if(v.Kind==(2:Int))then
  (oN v)
  else
  (if(v.Kind==(0:Int))then
  (oO v)
  else
  (if(v.Kind==(3:Int))then
  (if(decide ((v.S.length:Int)<=(40:Int)))then
  (oM (bO.mk (0:Int) v.N v.U ([])))
  else
  (oM v))
  else
  (if(v.Kind==(4:Int))then
  (jC (bO.mk (0:Int) (0:Int) (0:Int) v.S))
  else
  (jC v)))))

def sH(v:bO):Option Int:=
 (vT v).bind fun r=>
 if(!decide (r=(⟨(0:Int),(0:Int),(0:Int),[]⟩:bO)))then
 (some (120:Int))
 else
 (some (0:Int))

def qm(v:bO):Option Bool:=
 (sH v).bind fun r=>
 some ((r==(0:Int))&&(v.Kind !=(4:Int)))

def mQ(s:bZ):Nat->Int->Option Bool
  |0,_=>none
  |n+1,x=>
    if(decide (x<(s.length:Int)))then
    ((qO s x).bind fun b=>
    (if(!(decide (b<(32:Int))))then((qO s x).bind fun b1=>
    some (decide ((126:Int)<b1)))else some true).bind fun t=>
    if t then
    (some false)
    else
    ((mQ s n) (IntKind.i64.wrap (x+(1:Int)))))
    else
    (some true)

def wN(s:bZ):Option Bool:=
 mQ s gx (0:Int)

def u9(n:cj):Option Bool:=
  if(n.Tag==(1:Int))then
  ((if(!((!(n.Table==([])))||(!(n.Name==([])))))then((qm n.Value).bind fun r=>
  some r)else some false).bind fun t=>
  (if(t&&(decide ((0:Int)<=n.Value.N)))then((wN n.Value.S).bind fun r1=>
  some r1)else some false).bind fun t1=>
  some t1)
  else
  (if(n.Tag==(2:Int))then
  ((if(!(!decide (n.Value=(⟨(0:Int),(0:Int),(0:Int),[]⟩:bO))))then((jI n.Name).bind fun r2=>
  some r2)else some false).bind fun t2=>
  (if t2 then((pX n.Table).bind fun r3=>
  some r3)else some false).bind fun t3=>
  some t3)
  else
  (some ((!((!(n.Table==([])))||(!(n.Name==([])))))&&(!(!decide (n.Value=(⟨(0:Int),(0:Int),(0:Int),[]⟩:bO)))))))

def nc(nx:Nat->(List jO)->(List Int)->Option ((List jO)×Bool))(i:Nat)(all:List jO)(open1:List Int)(r:Int):List Int->jO->Option ((List jO)×Bool)
 |[],b2=>
  (lm all ([b2])).bind fun all1=>
  (cO open1 0 (IntKind.i64.wrap ((open1.length:Int)-r))).bind fun y1=>
  (lm y1 ([(i:Int)])).bind fun open2=>
  nx (i+1) all1 open2
 |e4::tl1,b2=>
  (fg all e4).bind fun e5=>
  (nc nx i all open1 r tl1) (jO.mk ({b2 with first:=(min b2.first e5.first)}:jO).first (max b2.depth (IntKind.i64.wrap (e5.depth+(1:Int)))))

def lK:List cj->Nat->(List jO)->(List Int)->Option ((List jO)×Bool)
  |[],i,all,open1=>
    (if(((open1.length:Int)==(1:Int))&&(decide ((all.length:Int)<=(300:Int))))then((fg all (IntKind.i64.wrap ((all.length:Int)-(1:Int)))).bind fun e1=>
    some (decide (e1.depth<=(20:Int))))else some false).bind fun t1=>
    some (all,t1)
  |e::tl,i,all,open1=>
    (xz e.Tag).bind fun r=>
    (if(!((decide (r<(0:Int)))||(decide ((open1.length:Int)<r))))then((u9 e).bind fun r1=>
    some (!r1))else some true).bind fun t2=>
    if t2 then
    (some ([],false))
    else
    ((cO open1 (IntKind.i64.wrap ((open1.length:Int)-r)) (open1.length:Int)).bind fun y=>
    (some (tm ([(-1:Int),(-1:Int)]) y)).bind fun cp=>
    (fg cp (0:Int)).bind fun e2=>
    (if(!(e.L !=e2))then((fg cp (1:Int)).bind fun e3=>
    some (e.R !=e3))else some true).bind fun t3=>
    if t3 then
    (some ([],false))
    else
    (nc (lK tl) i all open1 r y (⟨(i:Int),(1:Int)⟩:jO)))

def BF(t:ce):Option ((List jO)×Bool):=
 lK t.Nodes 0 ([]:List jO) ([]:List Int)

def qj(t:ce):Option Int:=
 (BF t).bind fun r=>
 if(!r.2)then
 (some (180:Int))
 else
 (some (0:Int))

def tt(t:ce):Option Bool:=
 (qj t).bind fun r=>
 some (r !=(0:Int))

def rC(l:(List ce)):Option Bool:=
 (fG l tt).bind fun r=>
 some (!r)

def mR(s:al):Nat->Nat->Bool->Option Bool
  |0,i3,ok3=>
    some ok3
  |k1+1,i3,ok3=>
    (fg ([s.Where,s.Having]) (i3:Int)).bind fun e4=>
    (if ok3 then((if(!((e4.Nodes.length:Int)==(0:Int)))then((rC ([e4])).bind fun r1=>
    some r1)else some true).bind fun t1=>
    some t1)else some false).bind fun t=>
    (mR s k1) (i3+1) t

def kX(s:al):List ig->Bool->Option Bool
  |[],ok2=>
    mR s 2 0 ok2
  |e2::tl2,ok2=>
    (if ok2 then((jI e2.Name).bind fun r2=>
    some r2)else some false).bind fun t2=>
    (if t2 then((pX e2.Table).bind fun r3=>
    some r3)else some false).bind fun t3=>
    (kX s tl2) t3

def kY(s:al):List kw->Bool->Option Bool
  |[],ok1=>
    kX s s.Group ok1
  |e1::tl1,ok1=>
    (if ok1 then((rC ([e1.On])).bind fun r4=>
    some r4)else some false).bind fun t4=>
    (if t4 then((sq e1.Source).bind fun r5=>
    some r5)else some false).bind fun t5=>
    (kY s tl1) t5

def kZ(s:al):List eh->Bool->Option Bool
  |[],ok=>
    kY s s.Joins ok
  |e::tl,ok=>
    (if ok then((rC ([e.Tree])).bind fun r6=>
    some r6)else some false).bind fun t6=>
    (if t6 then((pX e.As).bind fun r7=>
    some r7)else some false).bind fun t7=>
    (kZ s tl) t7

def tu(s:al):Option Bool:=
  if((((s.Star !=((s.Items.length:Int)==(0:Int)))||(decide ((6:Int)<(s.Items.length:Int))))||(decide ((2:Int)<(s.Joins.length:Int))))||(decide ((3:Int)<(s.Group.length:Int))))then
  (some false)
  else
  ((sq s.From).bind fun r=>
  kZ s s.Items r)

def qv(s:al):Option Bool:=
 (tu s).bind fun r=>
 some (!r)

def nd(q:aN):List lT->Bool->Option Int
  |[],ok=>
    (if(!(!ok))then((dy q.Selects qv).bind fun r1=>
    some r1)else some true).bind fun t2=>
    if t2 then
    (some (180:Int))
    else
    (some (0:Int))
  |e::tl,ok=>
    (if ok then((if(e.Name==([]))then((sr e.Number).bind fun r2=>
    some r2)else some false).bind fun t4=>
    (if(!t4)then((jI e.Name).bind fun r3=>
    some (r3&&(e.Number==(0:Int))))else some true).bind fun t5=>
    some t5)else some false).bind fun t3=>
    (nd q tl) t3

def xA(q:aN):Option Int:=
  (if(((decide ((0:Int)<(q.Selects.length:Int)))&&(decide ((q.Selects.length:Int)<=(3:Int))))&&(decide ((q.Keys.length:Int)<=(3:Int))))then((if(!(q.Limit==(-1:Int)))then((sr q.Limit).bind fun r=>
  some r)else some true).bind fun t1=>
  some t1)else some false).bind fun t=>
  nd q q.Keys t

def nb(c:aq)(name:bZ):Option (Int×Bool):=
 (fK c.Tables dz name).bind fun r=>
 some (r.1,r.2)

def tn(s:da):Option bZ:=
 if(s.As==([]))then
 (some s.Table)
 else
 (some s.As)

def fB(r1:bZ):List bl->ac->Option (Int×ac)
 |[],ob=>
  some ((0:Int),ob)
 |e1::tl,ob=>
  (lm ((fP ob.alone e1.Name).getD []) ([(ob.kinds.length:Int)])).bind fun l9=>
  (some ({({ob with alone:=(ir ob.alone e1.Name l9)}:ac)with behind:=(ir ob.behind ((⟨r1,e1.Name⟩:ig).Table,(⟨r1,e1.Name⟩:ig).Name) (ob.kinds.length:Int))}:ac)).bind fun sc1=>
  (lm sc1.kinds ([e1.Kind])).bind fun l10=>
  (fB r1 tl) ({sc1 with kinds:=l10}:ac)

def fV(s:ac)(p:da):Option (Int×ac):=
  (nb s.Catalog p.Table).bind fun r=>
  (tn p).bind fun r1=>
  if(!r.2)then
  (some ((220:Int),s))
  else
  (if((fP s.called r1).getD false)then
  (some ((221:Int),s))
  else
  ((lm s.out.Tables ([r.1])).bind fun l=>
  (some ({({s with called:=(ir s.called r1 true)}:ac)with out:=({({s with called:=(ir s.called r1 true)}:ac).out with Tables:=l}:aS)}:ac)).bind fun sc=>
  (fg sc.Catalog.Tables r.1).bind fun e=>
  fB r1 e.Columns sc))

def gu(s:ac):Option (Int×ac):=
 (fV ({s with at_:=(0:Int)}:ac) ((({s with at_:=(0:Int)}:ac).from_).From)).bind fun r=>
 some (r.1,r.2)

def pS(tag:Int):Option Int:=
  if((tag==(1:Int))||(tag==(2:Int)))then
  (some (0:Int))
  else
  (if((decide ((4:Int)<=tag))&&(decide (tag<=(7:Int))))then
  (some (1:Int))
  else
  (if((decide ((12:Int)<=tag))&&(decide (tag<=(23:Int))))then
  (some (2:Int))
  else
  (some (-1:Int))))

def tf(n:ap):Option Bool:=
  if(n.Tag==(1:Int))then
  ((qm n.Value).bind fun r=>
  some (r&&(n.Col==(0:Int))))
  else
  (if(n.Tag==(2:Int))then
  (some (((decide (n.Value=(⟨(0:Int),(0:Int),(0:Int),[]⟩:bO)))&&(decide ((0:Int)<=n.Col)))&&(decide (n.Col<(16:Int)))))
  else
  (some ((decide (n.Value=(⟨(0:Int),(0:Int),(0:Int),[]⟩:bO)))&&(n.Col==(0:Int)))))

def kS(nx:Nat->(List Int)->(List Int)->Option ((List Int)×Bool))(i:Nat)(e1:ap)(all:List Int)(open1:List Int)(r:Int):List Int->Nat->Int->(List Int)->Option ((List Int)×Bool)
  |[],i1,first,at1=>
    if(!decide (at1=([e1.L,e1.R])))then
    (some ([],false))
    else
    ((lm all ([first])).bind fun all1=>
    (cO open1 0 (IntKind.i64.wrap ((open1.length:Int)-r))).bind fun y1=>
    (lm y1 ([(i:Int)])).bind fun open2=>
    nx (i+1) all1 open2)
  |e2::tl1,i1,first,at1=>
    (fg all e2).bind fun e3=>
    (fg at1 (i1:Int)).bind fun e4=>
    (some (at1.set (i1:Int).toNat e2)).bind fun ar=>
    (kS nx i e1 all open1 r tl1) (i1+1) (min first e3) ar

def jL:List ap->Nat->(List Int)->(List Int)->Option ((List Int)×Bool)
  |[],i,all,open1=>
    some (all,(((open1.length:Int)==(1:Int))&&(decide ((all.length:Int)<=(1000:Int)))))
  |e1::tl,i,all,open1=>
    (pS e1.Tag).bind fun r=>
    (if(!((decide (r<(0:Int)))||(decide ((open1.length:Int)<r))))then((tf e1).bind fun r1=>
    some (!r1))else some true).bind fun t=>
    if t then
    (some ([],false))
    else
    ((cO open1 (IntKind.i64.wrap ((open1.length:Int)-r)) (open1.length:Int)).bind fun y=>
    kS (jL tl) i e1 all open1 r y 0 (i:Int) ([(-1:Int),(-1:Int)]))

def wE(e:aD):Option ((List Int)×Bool):=
 jL e.Nodes 0 ([]:List Int) ([]:List Int)

def oc(e:aD):Option Int:=
 (wE e).bind fun r=>
 if(!r.2)then
 (some (200:Int))
 else
 (some (0:Int))

def dI(i:Nat)(y:List Int):Nat->Nat->(List Int)->Int->Option (List Int)
  |0,i1,s1,k=>
    (cO s1 k (s1.length:Int)).bind fun y1=>
    (some (s1.take k.toNat++List.replicate y1.length (0:Int))).bind fun cl=>
    (cO cl 0 k).bind fun y2=>
    some y2
  |k2+1,i1,s1,k=>
    (Fy s1 (i:Int) y.length (i1:Int)).bind fun e3=>
    (Fy s1 (i:Int) y.length (IntKind.i64.wrap ((i1:Int)-(1:Int)))).bind fun e4=>
    if(e3 !=e4)then
    ((Fy s1 (i:Int) y.length (i1:Int)).bind fun e5=>
    (fg s1 k).bind fun e6=>
    (some (s1.set k.toNat e5)).bind fun st=>
    (dI i y k2) (i1+1) st (IntKind.i64.wrap (k+(1:Int))))
    else
    ((dI i y k2) (i1+1) s1 k)

def eo(s:(List Int)):List Int->Nat->Option (List Int)
  |[],i=>
    some s
  |e::tl,i=>
    (fg s (IntKind.i64.wrap ((i:Int)-(1:Int)))).bind fun e1=>
    if(e==e1)then
    ((cO s (i:Int) (s.length:Int)).bind fun y=>
    dI i y (y.length-1) 1 s (i:Int))
    else
    ((eo s tl) (i+1))

def jm(s:(List Int)):Option (List Int):=
 if(decide ((s.length:Int)<(2:Int)))then
 (some s)
 else
 (eo s (s.drop (1)) 1)

def lF:List ap->(List Int)->Option (List Int)
  |[],out=>
    (Du out).bind fun Ws=>
    (jm Ws).bind fun r1=>
    some r1
  |e1::tl,out=>
    if(e1.Tag==(2:Int))then
    ((lm out ([e1.Col])).bind fun out1=>
    (lF tl) out1)
    else
    ((lF tl) out)

def uj(e:aD):Option (List Int):=
 (oc e).bind fun r=>
 if(r !=(0:Int))then
 (some ([]:List Int))
 else
 (lF e.Nodes ([]:List Int))

def j3(s:(List Int)):Option (List Int):=
 (lm ([]:List Int) s).bind fun x=>
 some x

def nR(stack:(List Int))(k:Int):Option ((List Int)×(List Int)):=
 (cO stack (IntKind.i64.wrap ((stack.length:Int)-k)) (stack.length:Int)).bind fun y=>
 (j3 y).bind fun r=>
 (cO stack 0 (IntKind.i64.wrap ((stack.length:Int)-k))).bind fun y1=>
 some (r,y1)

def kR(bad:Int)(stack:List Int):Option (Int×Int):=
  if(bad !=(0:Int))then
  (some ((0:Int),bad))
  else
  ((fg stack (0:Int)).bind fun e1=>
  some (e1,(0:Int)))

def gq(do1:(ap->(List Int)->Option (Int×Int))):List ap->Int->(List Int)->Option (Int×Int)
  |[],bad1,stack1=>
    kR bad1 stack1
  |e2::tl,bad1,stack1=>
    (pS e2.Tag).bind fun r=>
    (nR stack1 r).bind fun r1=>
    (do1 e2 r1.1).bind fun r2=>
    if(r2.2 !=(0:Int))then
    (kR r2.2 r1.2)
    else
    ((lm r1.2 ([r2.1])).bind fun l2=>
    (gq do1 tl) bad1 l2)

def nG(e:aD)(do1:(ap->(List Int)->Option (Int×Int))):Option (Int×Int):=
 gq do1 e.Nodes (0:Int) ([]:List Int)

def vv(tag:Int):Option Bool:=
 some ((tag==(4:Int))||((decide ((12:Int)<=tag))&&(decide (tag<=(15:Int)))))

def kT(kinds:(List Int))(n:ap):List Int->Int->Option (Int×Int)
  |[],own=>
    if(n.Tag==(1:Int))then
    (some (n.Value.Kind,(0:Int)))
    else
    (if(n.Tag==(2:Int))then
    ((fg kinds n.Col).bind fun e1=>
    some (e1,(0:Int)))
    else
    ((vv n.Tag).bind fun r=>
    if r then
    (if((own==(-1:Int))||((own !=(0:Int))&&(own !=(2:Int))))then
    (some ((0:Int),(201:Int)))
    else
    (some ((2:Int),(0:Int))))
    else
    (if(((n.Tag==(5:Int))||(n.Tag==(22:Int)))||(n.Tag==(23:Int)))then
    (if((own==(-1:Int))||((own !=(0:Int))&&(own !=(1:Int))))then
    (some ((0:Int),(201:Int)))
    else
    (some ((1:Int),(0:Int))))
    else
    (if((own==(-1:Int))||((own !=(0:Int))&&(own !=own)))then
    (some ((0:Int),(201:Int)))
    else
    (some ((1:Int),(0:Int)))))))
  |e::tl,own=>
    if((e==(0:Int))||(e==own))then
    ((kT kinds n tl) own)
    else
    (if(own==(0:Int))then
    ((kT kinds n tl) e)
    else
    ((kT kinds n tl) (-1:Int)))

def iG(kinds:(List Int))(n:ap)(l:(List Int)):Option (Int×Int):=
 kT kinds n l (0:Int)

def lE(e:aD)(kinds:(List Int)):List Int->Option (Int×Int)
 |[]=>
  (nG e (iG kinds)).bind fun r2=>
  some (r2.1,r2.2)
 |e2::tl1=>
  if(decide ((kinds.length:Int)<=e2))then
  (some ((0:Int),(2:Int)))
  else
  ((lE e kinds tl1))

def ph(e:aD)(kinds:(List Int)):List Int->Option (Int×Int)
 |[]=>
  (uj e).bind fun r1=>
  lE e kinds r1
 |e1::tl=>
  if((decide (e1<(0:Int)))||(decide ((3:Int)<e1)))then
  (some ((0:Int),(2:Int)))
  else
  ((ph e kinds tl))

def pU(e:aD)(kinds:(List Int)):Option (Int×Int):=
 (oc e).bind fun r=>
 if(r !=(0:Int))then
 (some ((0:Int),r))
 else
 (ph e kinds kinds)

def nS:Option (List (Int×Int)):=
 some (ir (ir (ir (ir (ir ([]:List (Int×Int)) (3:Int) (1:Int)) (8:Int) (2:Int)) (9:Int) (3:Int)) (10:Int) (4:Int)) (11:Int) (5:Int))

def pf(nx:(List ap)->Option (List ap))(out1:List ap)(n1:ap):Option (List ap):=
 (lm out1 ([n1])).bind fun out2=>
 nx out2

def pg(out:(List ap))(nx:(List ap)->Option (List ap))(out1:List ap)(n:ap):Option (List ap):=
 if(decide ((0:Int)<=n.R))then
 (pf nx out1 (ap.mk n.Tag n.L (IntKind.i64.wrap (n.R+(out.length:Int))) n.Col n.Value))
 else
 (pf nx out1 n)

def iv(out:(List ap)):List ap->(List ap)->Option (List ap)
 |[],out1=>
  some out1
 |e1::tl,out1=>
  if(decide ((0:Int)<=e1.L))then
  (pg out (iv out tl) out1 (ap.mk e1.Tag (IntKind.i64.wrap (e1.L+(out.length:Int))) e1.R e1.Col e1.Value))
  else
  (pg out (iv out tl) out1 e1)

def xv(out:(List ap))(e:aD):Option (List ap):=
 iv out e.Nodes out

def gI(root:ap):List aD->Nat->(List ap)->(List Int)->Option aD
 |[],i,out,at1=>
  (fg at1 (0:Int)).bind fun e1=>
  (fg at1 (1:Int)).bind fun e2=>
  (lm out ([(ap.mk ({root with L:=e1}:ap).Tag ({root with L:=e1}:ap).L e2 ({root with L:=e1}:ap).Col ({root with L:=e1}:ap).Value)])).bind fun l2=>
  some (⟨l2⟩:aD)
 |e::tl,i,out,at1=>
  (xv out e).bind fun r=>
  (fg at1 (i:Int)).bind fun e3=>
  (some (at1.set (i:Int).toNat (IntKind.i64.wrap ((r.length:Int)-(1:Int))))).bind fun ar=>
  (gI root tl) (i+1) r ar

def j5(root:ap)(l:(List aD)):Option aD:=
 gI root l 0 ([]:List ap) ([(-1:Int),(-1:Int)])

def lD(root:ap)(l:(List aD)):List aD->aD->Option (aD×Int)
 |[],x=>
  (j5 root l).bind fun r=>
  (oc r).bind fun r1=>
  if(r1 !=(0:Int))then
  (some ((⟨[]⟩:aD),r1))
  else
  (some (r,(0:Int)))
 |e::tl,x=>
  (oc e).bind fun r2=>
  if(r2 !=(0:Int))then
  (some ((⟨[]⟩:aD),r2))
  else
  ((lD root l tl) x)

def pT(root:ap)(l:(List aD)):Option (aD×Int):=
 lD root l l (⟨[]⟩:aD)

def rA(n:ap):Option (aD×Int):=
 (pT n ([])).bind fun r=>
 some (r.1,r.2)

def bk(n:ap):Option (aD×Int):=
 (rA n).bind fun r=>
 some (r.1,r.2)

def eZ(s:ac)(group:Bool):Option (List Int):=
 if group then
 (some s.groups)
 else
 (some s.kinds)

def iW(s:ac)(n:ig):Option (Int×Int):=
  if(!(n.Table==([])))then
  (if(!((fP s.behind (n.Table,n.Name)).isSome))then
  (some ((0:Int),(222:Int)))
  else
  (some (((fP s.behind (n.Table,n.Name)).getD (0:Int)),(0:Int))))
  else
  (if((((fP s.alone n.Name).getD []).length:Int)==(0:Int))then
  (some ((0:Int),(222:Int)))
  else
  (if((((fP s.alone n.Name).getD []).length:Int)==(1:Int))then
  ((fg ((fP s.alone n.Name).getD []) (0:Int)).bind fun e=>
  some (e,(0:Int)))
  else
  (some ((0:Int),(223:Int)))))

def gj(v:Int):List Int->Nat->Option Int
 |[],i=>
  some (-1:Int)
 |e::tl,i=>
  if(v==e)then
  (some (i:Int))
  else
  ((gj v tl) (i+1))

def j0(s:(List Int))(v:Int):Option Int:=
 gj v s 0

def dq(f:(jT->Option Bool)):List jT->Nat->Option Int
 |[],i=>
  some (-1:Int)
 |e::tl,i=>
  (f e).bind fun r=>
  if r then
  (some (i:Int))
  else
  ((dq f tl) (i+1))

def gA(s:(List jT))(f:(jT->Option Bool)):Option Int:=
 dq f s 0

def dr(s2:(List ap)):List ap->Nat->Option Bool
 |[],i=>
  some true
 |e::tl,i=>
  (fg s2 (i:Int)).bind fun e1=>
  if(!decide (e=e1))then
  (some false)
  else
  ((dr s2 tl) (i+1))

def gB(s1:(List ap))(s2:(List ap)):Option Bool:=
 if((s1.length:Int) !=(s2.length:Int))then
 (some false)
 else
 (dr s2 s1 0)

def xw(a1:aD)(b:aD):Option Bool:=
 (gB a1.Nodes b.Nodes).bind fun r=>
 some r

def jy(c:jT)(p:jT):Option Bool:=
  (if(p.Tag==c.Tag)then((xw p.Arg c.Arg).bind fun r=>
  some r)else some false).bind fun t=>
  some t

def j7(i:Int)(ob:ac):Option (Int×Int×ac):=
 if(decide ((12:Int)<(ob.out.Aggs.length:Int)))then
 (some ((0:Int),(228:Int),ob))
 else
 (some ((IntKind.i64.wrap ((ob.out.Keys.length:Int)+i)),(0:Int),ob))

def iX(s:ac)(a1:jT)(kind:Int):Option (Int×Int×ac):=
  (gA s.out.Aggs (jy a1)).bind fun r=>
  if(decide (r<(0:Int)))then
  ((lm s.out.Aggs ([a1])).bind fun l7=>
  (lm s.groups ([kind])).bind fun l8=>
  j7 (s.out.Aggs.length:Int) ({({s with out:=({s.out with Aggs:=l7}:aS)}:ac)with groups:=l8}:ac))
  else
  (j7 r s)

def kV(s:ac)(a1:jT):Option (Int×Int×ac):=
  if(a1.Tag !=(1:Int))then
  ((pU a1.Arg s.kinds).bind fun r1=>
  if((r1.2 !=(0:Int))||(((a1.Tag==(3:Int))&&(r1.1 !=(2:Int)))&&(r1.1 !=(0:Int))))then
  (some ((0:Int),(201:Int),s))
  else
  (if((a1.Tag==(4:Int))||(a1.Tag==(5:Int)))then
  (iX s a1 r1.1)
  else
  (iX s a1 (2:Int))))
  else
  (iX s a1 (2:Int))

def wF(tag:Int)(l:aD):Option (aD×Int):=
 (pT (⟨tag,(0:Int),(0:Int),(0:Int),(⟨(0:Int),(0:Int),(0:Int),[]⟩:bO)⟩:ap) ([l])).bind fun r=>
 some (r.1,r.2)

def Au(tag:Int)(l:aD)(r:aD):Option (aD×Int):=
 (pT (⟨tag,(0:Int),(0:Int),(0:Int),(⟨(0:Int),(0:Int),(0:Int),[]⟩:bO)⟩:ap) ([l,r])).bind fun r1=>
 some (r1.1,r1.2)

def dw(s:ac)(leaf:(ap->Option (aD×Int)))(at1:Int)(e1:Int):Option (aD×Int×ac):=
  if(e1 !=(0:Int))then
  (some ((⟨[]⟩:aD),e1,s))
  else
  ((leaf (⟨(2:Int),(0:Int),(0:Int),at1,(⟨(0:Int),(0:Int),(0:Int),[]⟩:bO)⟩:ap)).bind fun r2=>
  some (r2.1,r2.2,s))

def em(leaf:(ap->Option (aD×Int)))(ob:ac)(a1:jT):Option (aD×Int×ac):=
  (kV ob a1).bind fun r4=>
  if(r4.2.1 !=(0:Int))then
  (some ((⟨[]⟩:aD),r4.2.1,r4.2.2))
  else
  ((leaf (⟨(2:Int),(0:Int),(0:Int),r4.1,(⟨(0:Int),(0:Int),(0:Int),[]⟩:bO)⟩:ap)).bind fun r5=>
  some (r5.1,r5.2,r4.2.2))

def mN(x1:aD)(e5:Int)(ob1:ac):Option (aD×Int×ac):=
 some (x1,e5,ob1)

def gv(over:ac->Bool->Option ((List Int)×ac))(group:Bool)(ob:ac)(e4:Int)(x1:aD):Option (aD×Int×ac):=
  if(e4==(0:Int))then
  ((over ob (group)).bind fun r7=>
  (pU x1 r7.1).bind fun r8=>
  mN x1 r8.2 r7.2)
  else
  (mN x1 e4 ob)

def fD(leaf:(ap->Option (aD×Int)))(tags:(List (Int×Int)))(over:ac->Bool->Option ((List Int)×ac))(group:Bool)(e:cj)(parts:List aD)(x:aD)(ob:ac):Option (aD×Int×ac):=
  if((decide ((0:Int)<((fP tags e.Tag).getD (0:Int))))&&(!group))then
  (some ((⟨[]⟩:aD),(224:Int),ob))
  else
  (if(decide ((0:Int)<((fP tags e.Tag).getD (0:Int))))then
  (if(decide ((0:Int)<(parts.length:Int)))then
  ((fg parts (0:Int)).bind fun e2=>
  em leaf ob (jT.mk (⟨((fP tags e.Tag).getD (0:Int)),(⟨[]⟩:aD)⟩:jT).Tag e2))
  else
  (em leaf ob (⟨((fP tags e.Tag).getD (0:Int)),(⟨[]⟩:aD)⟩:jT)))
  else
  ((fg parts (0:Int)).bind fun e3=>
  (wF e.Tag e3).bind fun r6=>
  if((parts.length:Int)==(2:Int))then
  ((fg parts (1:Int)).bind fun e6=>
  (Au e.Tag e3 e6).bind fun r9=>
  gv over group ob r9.2 r9.1)
  else
  (gv over group ob r6.2 r6.1)))

def dv(self__:ac->ce->(ap->Option (aD×Int))->(List (Int×Int))->(ac->Bool->Option ((List Int)×ac))->Int->Bool->Option (aD×Int×ac))(t:ce)(leaf:(ap->Option (aD×Int)))(tags:(List (Int×Int)))(over:ac->Bool->Option ((List Int)×ac))(group:Bool)(e:cj):Nat->Nat->(List aD)->aD->ac->Option (aD×Int×ac)
  |0,i3,parts1,x2,ob2=>
    fD leaf tags over group e parts1 x2 ob2
  |k1+1,i3,parts1,x2,ob2=>
    (fg ([e.L,e.R]) (i3:Int)).bind fun e8=>
    if(decide (e8<(0:Int)))then
    (fD leaf tags over group e parts1 x2 ob2)
    else
    ((self__ ob2 t leaf tags over e8 (group&&(((fP tags e.Tag).getD (0:Int))==(0:Int)))).bind fun r10=>
    if(r10.2.1 !=(0:Int))then
    (some (r10.1,r10.2.1,r10.2.2))
    else
    ((lm parts1 ([r10.1])).bind fun parts2=>
    (dv self__ t leaf tags over group e k1) (i3+1) parts2 x2 r10.2.2))

def bG:Nat->ac->ce->(ap->Option (aD×Int))->(List (Int×Int))->(ac->Bool->Option ((List Int)×ac))->Int->Bool->Option (aD×Int×ac)
  |0,_,_,_,_,_,_,_=>none
  |fu+1,s,t,leaf,tags,over,i,group=>
    (fg t.Nodes i).bind fun e=>
    if(e.Tag==(1:Int))then
    ((leaf (⟨(1:Int),(0:Int),(0:Int),(0:Int),e.Value⟩:ap)).bind fun r=>
    some (r.1,r.2,s))
    else
    (if(e.Tag==(2:Int))then
    ((iW s (⟨e.Table,e.Name⟩:ig)).bind fun r1=>
    if((r1.2==(0:Int))&&group)then
    ((j0 s.out.Keys r1.1).bind fun r3=>
    if(decide (r3<(0:Int)))then
    (dw s leaf r3 (225:Int))
    else
    (dw s leaf r3 r1.2))
    else
    (dw s leaf r1.1 r1.2))
    else
    (dv (bG fu) t leaf tags over group e 2 0 ([]:List aD) (⟨[]⟩:aD) s))

def pl(s:ac)(t:ce)(leaf:(ap->Option (aD×Int)))(tags:(List (Int×Int)))(over:ac->Bool->Option ((List Int)×ac))(i:Int)(group:Bool):Option (aD×Int×ac):=
 bG gx s t leaf tags over i group

def jY(s:ac)(t:ce)(group:Bool):Option (aD×Int×Int×ac):=
  (nS).bind fun r=>
  (pl s t bk r (fun(mc:ac) (mx:Bool)=>(eZ mc mx).map fun mr=>(mr,mc)) (IntKind.i64.wrap ((t.Nodes.length:Int)-(1:Int))) group).bind fun r1=>
  if(r1.2.1 !=(0:Int))then
  (some ((⟨[]⟩:aD),(0:Int),r1.2.1,r1.2.2))
  else
  (((fun(mc:ac) (mx:Bool)=>(eZ mc mx).map fun mr=>(mr,mc)) r1.2.2 (group)).bind fun r2=>
  (pU r1.1 r2.1).bind fun r3=>
  some (r1.1,r3.1,r3.2,r2.2))

def kD(r:aD×Int×Int×ac)(e:Int):Option (aD×Int×ac):=
 some (r.1,e,r.2.2.2)

def ef(s:ac)(t:ce)(group:Bool):Option (aD×Int×ac):=
 (jY s t group).bind fun r=>
 if(((r.2.2.1==(0:Int))&&(r.2.1 !=(1:Int)))&&(r.2.1 !=(0:Int)))then
 (kD r (226:Int))
 else
 (kD r r.2.2.1)

def gP:List kw->ac->Option (Int×ac)
  |[],ob=>
    some ((0:Int),ob)
  |e::tl,ob=>
    (fV ob e.Source).bind fun r=>
    if(r.1 !=(0:Int))then
    (some (r.1,r.2))
    else
    ((ef r.2 e.On false).bind fun r1=>
    if(r1.2.1 !=(0:Int))then
    (some (r1.2.1,r1.2.2))
    else
    ((lm r1.2.2.out.Joins ([(⟨e.Left,r1.1⟩:mU)])).bind fun l7=>
    (gP tl) ({r1.2.2 with out:=({r1.2.2.out with Joins:=l7}:aS)}:ac)))

def eM(s:ac):Option (Int×ac):=
 gP ((({s with at_:=(1:Int)}:ac).from_).Joins) ({s with at_:=(1:Int)}:ac)

def nr(e:Int)(ob:ac):Option (Int×ac):=
 some (e,ob)

def fL(s:ac):Option (Int×ac):=
  if(decide ((0:Int)<((((({s with at_:=(2:Int)}:ac).from_).Where).Nodes).length:Int)))then
  ((ef ({s with at_:=(2:Int)}:ac) ((({s with at_:=(2:Int)}:ac).from_).Where) false).bind fun r=>
  nr r.2.1 ({r.2.2 with out:=({r.2.2.out with Where:=r.1}:aS)}:ac))
  else
  (nr (0:Int) ({s with at_:=(2:Int)}:ac))

def jj:List ig->ac->Option (Int×ac)
  |[],ob=>
    some ((0:Int),ob)
  |e::tl,ob=>
    (iW ob e).bind fun r=>
    if(r.2 !=(0:Int))then
    (some (r.2,ob))
    else
    ((lm ob.out.Keys ([r.1])).bind fun l7=>
    (fg ob.kinds r.1).bind fun e1=>
    (lm ob.groups ([e1])).bind fun l8=>
    (jj tl) ({({ob with out:=({ob.out with Keys:=l7}:aS)}:ac)with groups:=l8}:ac))

def eN(s:ac):Option (Int×ac):=
 jj ((({s with at_:=(3:Int)}:ac).from_).Group) ({s with at_:=(3:Int)}:ac)

def di(f:(cj->Option Bool)):List cj->Nat->Option Int
 |[],i=>
  some (-1:Int)
 |e::tl,i=>
  (f e).bind fun r=>
  if r then
  (some (i:Int))
  else
  ((di f tl) (i+1))

def ge(s:(List cj))(f:(cj->Option Bool)):Option Int:=
 di f s 0

def dU(s:(List cj))(f:(cj->Option Bool)):Option Bool:=
 (ge s f).bind fun r=>
 some (decide ((0:Int)<=r))

def kW(tags:(List (Int×Int)))(n:cj):Option Bool:=
 some (decide ((0:Int)<((fP tags n.Tag).getD (0:Int))))

def mO(tags:(List (Int×Int)))(p:eh):Option Bool:=
 (dU p.Tree.Nodes (kW tags)).bind fun r=>
 some r

def dj(f:(eh->Option Bool)):List eh->Nat->Option Int
 |[],i=>
  some (-1:Int)
 |e::tl,i=>
  (f e).bind fun r=>
  if r then
  (some (i:Int))
  else
  ((dj f tl) (i+1))

def gh(s:(List eh))(f:(eh->Option Bool)):Option Int:=
 dj f s 0

def dV(s:(List eh))(f:(eh->Option Bool)):Option Bool:=
 (gh s f).bind fun r=>
 some (decide ((0:Int)<=r))

def rt(s:al):Option Bool:=
  (nS).bind fun r=>
  (if(!((decide ((0:Int)<(s.Group.length:Int)))||(decide ((0:Int)<(s.Having.Nodes.length:Int)))))then((dV s.Items (mO r)).bind fun r1=>
  some r1)else some true).bind fun t=>
  some t

def gQ:List eh->ac->Option (Int×ac)
  |[],ob1=>
    some ((0:Int),ob1)
  |e::tl,ob1=>
    (jY ob1 e.Tree ob1.out.Grouped).bind fun r1=>
    if(r1.2.2.1 !=(0:Int))then
    (some (r1.2.2.1,r1.2.2.2))
    else
    ((lm r1.2.2.2.out.Items ([r1.1])).bind fun l14=>
    (gQ tl) ({r1.2.2.2 with out:=({r1.2.2.2.out with Items:=l14}:aS)}:ac))

def fU(ob:ac):Option (Int×ac):=
 gQ ob.from_.Items ob

def ji:List Int->Nat->ac->Option (Int×ac)
  |[],i4,ob2=>
    fU ob2
  |e1::tl1,i4,ob2=>
    (rA (⟨(2:Int),(0:Int),(0:Int),(i4:Int),(⟨(0:Int),(0:Int),(0:Int),[]⟩:bO)⟩:ap)).bind fun r2=>
    if(r2.2 !=(0:Int))then
    (some (r2.2,ob2))
    else
    ((lm ob2.out.Items ([r2.1])).bind fun l22=>
    (ji tl1) (i4+1) ({ob2 with out:=({ob2.out with Items:=l22}:aS)}:ac))

def fM(s:ac):Option (Int×ac):=
  (rt (({s with at_:=(4:Int)}:ac).from_)).bind fun r=>
  (some ({({s with at_:=(4:Int)}:ac)with out:=({({s with at_:=(4:Int)}:ac).out with Distinct:=(({s with at_:=(4:Int)}:ac).from_).Distinct}:aS)}:ac)).bind fun sc=>
  if(((({sc with out:=({sc.out with Grouped:=r}:aS)}:ac).from_).Star)&&((({sc with out:=({sc.out with Grouped:=r}:aS)}:ac).out).Grouped))then
  (some ((227:Int),({sc with out:=({sc.out with Grouped:=r}:aS)}:ac)))
  else
  (if((({sc with out:=({sc.out with Grouped:=r}:aS)}:ac).from_).Star)then
  (ji sc.kinds 0 ({sc with out:=({sc.out with Grouped:=r}:aS)}:ac))
  else
  (fU ({sc with out:=({sc.out with Grouped:=r}:aS)}:ac)))

def mM(e:Int)(ob:ac):Option (Int×ac):=
 some (e,ob)

def fW(s:ac):Option (Int×ac):=
  if(decide ((0:Int)<((((({s with at_:=(5:Int)}:ac).from_).Having).Nodes).length:Int)))then
  ((ef ({s with at_:=(5:Int)}:ac) ((({s with at_:=(5:Int)}:ac).from_).Having) true).bind fun r=>
  mM r.2.1 ({r.2.2 with out:=({r.2.2.out with Having:=r.1}:aS)}:ac))
  else
  (mM (0:Int) ({s with at_:=(5:Int)}:ac))

def mi(e:Int)(ob:ac):Option (Int×ac):=
 some (e,ob)

def gJ:Nat->Nat->Int->ac->Option (Int×ac)
 |0,i,e1,ob1=>
  mi e1 ob1
 |k1+1,i,e1,ob1=>
  (fg ([(fun(mc:ac) (mx:Unit)=>gu mc),(fun(mc:ac) (mx:Unit)=>eM mc),(fun(mc:ac) (mx:Unit)=>fL mc),(fun(mc:ac) (mx:Unit)=>eN mc),(fun(mc:ac) (mx:Unit)=>fM mc),(fun(mc:ac) (mx:Unit)=>fW mc)]) (i:Int)).bind fun fn=>
  (fn ob1 ()).bind fun r=>
  if(r.1 !=(0:Int))then
  (mi r.1 r.2)
  else
  ((gJ k1) (i+1) r.1 r.2)

def iI(s:ac):Option (Int×ac):=
 gJ 6 0 (0:Int) s

def ff(over:(List Int)):List aD->(List Int)->Option (List Int)
 |[],out=>
  some out
 |e::tl,out=>
  (pU e over).bind fun r=>
  (lm out ([r.1])).bind fun out1=>
  (ff over tl) out1

def iU(s:ac)(over:(List Int)):Option (List Int):=
 ff over s.out.Items ([]:List Int)

def fC(s:ac):Option (List Int):=
 if s.out.Grouped then
 (iU s s.groups)
 else
 (iU s s.kinds)

def kE(nx:(List bZ)->Option (List bZ))(out1:List bZ)(own:bZ):Option (List bZ):=
 (lm out1 ([own])).bind fun out2=>
 nx out2

def eV:List eh->(List bZ)->Option (List bZ)
 |[],out1=>
  some out1
 |e::tl,out1=>
  (fg e.Tree.Nodes (IntKind.i64.wrap ((e.Tree.Nodes.length:Int)-(1:Int)))).bind fun e1=>
  if(e.As==([]))then
  (kE (eV tl) out1 e1.Name)
  else
  (kE (eV tl) out1 e.As)

def jh(s:ac)(out:List bZ):Option (List bZ):=
 eV s.from_.Items out

def gO(nx1:(List bZ)->Option (List bZ)):List bl->(List bZ)->Option (List bZ)
 |[],out4=>
  nx1 out4
 |e4::tl2,out4=>
  (lm out4 ([e4.Name])).bind fun out5=>
  (gO nx1 tl2) out5

def fT(s:ac):List Int->(List bZ)->Option (List bZ)
 |[],out3=>
  jh s out3
 |e2::tl1,out3=>
  (fg s.Catalog.Tables e2).bind fun e3=>
  gO (fT s tl1) e3.Columns out3

def ia(s:ac):Option (List bZ):=
 if s.from_.Star then
 (fT s s.out.Tables ([]:List bZ))
 else
 (jh s ([]:List bZ))

def iw:List Int->Nat->(List Int)->Option (Bool×List Int)
  |[],i,all1=>
    some (true,all1)
  |e::tl,i,all1=>
    (fg all1 (i:Int)).bind fun e1=>
    if(e1==(0:Int))then
    ((some (all1.set (i:Int).toNat e)).bind fun st=>
    (iw tl) (i+1) st)
    else
    (if((e !=(0:Int))&&(e !=e1))then
    (some (false,all1))
    else
    ((iw tl) (i+1) all1))

def km(all:(List Int))(l1:(List Int)):Option (Bool×List Int):=
 if((all.length:Int) !=(l1.length:Int))then
 (some (false,all))
 else
 (iw l1 0 all)

def uk(k:lT)(names:(List bZ)):Option (Int×Int):=
  if(k.Name==([]))then
  (if((decide (k.Number<(1:Int)))||(decide ((names.length:Int)<k.Number)))then
  (some ((0:Int),(222:Int)))
  else
  (some ((IntKind.i64.wrap (k.Number-(1:Int))),(0:Int))))
  else
  ((eb names k.Name).bind fun r=>
  if(decide (r<(0:Int)))then
  (some ((0:Int),(222:Int)))
  else
  ((cO names (IntKind.i64.wrap (r+(1:Int))) (names.length:Int)).bind fun y=>
  (ej y k.Name).bind fun r1=>
  if r1 then
  (some ((0:Int),(223:Int)))
  else
  (some (r,(0:Int)))))

def f9:List lT->aQ->aQ->Option (aQ×Int×Int)
  |[],x1,b3=>
    some (b3,(0:Int),(0:Int))
  |e1::tl1,x1,b3=>
    (uk e1 b3.Names).bind fun r2=>
    if(r2.2 !=(0:Int))then
    (some ((⟨[],[],[],[],(0:Int)⟩:aQ),(90:Int),r2.2))
    else
    ((lm b3.Order ([(⟨r2.1,e1.Desc⟩:zz)])).bind fun l6=>
    (f9 tl1) x1 ({b3 with Order:=l6}:aQ))

def ga(nx:Nat->aQ->aQ->Option (aQ×Int×Int))(i:Nat)(r3:Int×ac)(x2:aQ)(b10:aQ):Option (aQ×Int×Int):=
 (lm b10.Selects ([r3.2.out])).bind fun l11=>
 nx (i+1) x2 ({b10 with Selects:=l11}:aQ)

def ca(c:aq)(q:aN):List al->Nat->aQ->aQ->Option (aQ×Int×Int)
  |[],i,x,b2=>
    f9 q.Keys x b2
  |e::tl,i,x,b2=>
    (some (⟨c,e,(⟨[],[],(⟨[]⟩:aD),(⟨[]⟩:aD),false,false,[],[],[]⟩:aS),[],[],[],[],[],(0:Int)⟩:ac)).bind fun sc=>
    (iI sc).bind fun r3=>
    if(r3.1 !=(0:Int))then
    (some ((⟨[],[],[],[],(0:Int)⟩:aQ),(IntKind.i64.wrap ((IntKind.i64.wrap ((10:Int)*(i:Int)))+r3.2.at_)),r3.1))
    else
    ((fC r3.2).bind fun r4=>
    if((i:Int)==(0:Int))then
    ((ia r3.2).bind fun r5=>
    ga (ca c q tl) i r3 x ({({({({b2 with Names:=r5}:aQ)with Selects:=b2.Selects}:aQ)with Kinds:=r4}:aQ)with Order:=b2.Order}:aQ))
    else
    ((km b2.Kinds r4).bind fun r6=>
    if(!r6.1)then
    (some ((⟨[],[],[],[],(0:Int)⟩:aQ),(IntKind.i64.wrap ((IntKind.i64.wrap ((10:Int)*(i:Int)))+(6:Int))),(229:Int)))
    else
    (ga (ca c q tl) i r3 x ({b2 with Kinds:=r6.2}:aQ))))

def lX(c:aq)(q:aN):Option (aQ×Int×Int):=
  (qi c).bind fun r=>
  if(r !=(0:Int))then
  (some ((⟨[],[],[],[],(0:Int)⟩:aQ),(0:Int),r))
  else
  ((xA q).bind fun r1=>
  if(r1 !=(0:Int))then
  (some ((⟨[],[],[],[],(0:Int)⟩:aQ),(0:Int),r1))
  else
  (ca c q q.Selects 0 (⟨[],[],[],[],(0:Int)⟩:aQ) ({({({(⟨[],[],[],[],q.Limit⟩:aQ)with Selects:=([]:List aS)}:aQ)with Kinds:=([]:List Int)}:aQ)with Order:=([]:List zz)}:aQ)))

def Ce(s:bZ):Option eh:=
 some (⟨(⟨[(⟨(2:Int),(-1:Int),(-1:Int),(⟨(0:Int),(0:Int),(0:Int),[]⟩:bO),[],s⟩:cj)]⟩:ce),[]⟩:eh)

def wr:Option aq:=
 some (⟨[(⟨[116],[(⟨[97],(2:Int)⟩:bl),(⟨[98],(3:Int)⟩:bl)],[]⟩:bp),(⟨[117],[(⟨[97],(2:Int)⟩:bl)],[]⟩:bp)]⟩:aq)

def wq:Option Bool:=
  (Ce ([98])).bind fun r=>
  (wr).bind fun r1=>
  (lX r1 (⟨[(⟨false,false,[r],(⟨[116],[]⟩:da),[],(⟨[]⟩:ce),(⟨[]⟩:ce),[]⟩:al)],[],(-1:Int)⟩:aN)).bind fun r2=>
  (wr).bind fun r3=>
  (lX r3 (aN.mk (⟨[(⟨false,false,[r],(⟨[116],[]⟩:da),[],(⟨[]⟩:ce),(⟨[]⟩:ce),[]⟩:al)],[],(-1:Int)⟩:aN).Selects ([(⟨[],(2:Int),false⟩:lT)]) (⟨[(⟨false,false,[r],(⟨[116],[]⟩:da),[],(⟨[]⟩:ce),(⟨[]⟩:ce),[]⟩:al)],[],(-1:Int)⟩:aN).Limit)).bind fun r4=>
  (if(((((r2.2.2==(0:Int))&&(r2.2.1==(0:Int)))&&(r4.2.2==(222:Int)))&&(r4.2.1==(90:Int)))&&((r2.1.Names.length:Int)==(1:Int)))then((fg r2.1.Names (0:Int)).bind fun e=>
  some (e==([98])))else some false).bind fun t=>
  (if t then((fg r2.1.Kinds (0:Int)).bind fun e1=>
  some (e1==(3:Int)))else some false).bind fun t1=>
  (if t1 then((fg r2.1.Selects (0:Int)).bind fun e2=>
  (fg e2.Items (0:Int)).bind fun e3=>
  (fg e3.Nodes (0:Int)).bind fun e4=>
  some (e4.Col==(1:Int)))else some false).bind fun t2=>
  some t2

def qf(l:(List Int))(most:Int):Option (List Int):=
 (cO l 0 (min (l.length:Int) most)).bind fun y=>
 (lm ([]:List Int) y).bind fun x=>
 some x

def nq(l:(List bp))(most:Int):Option (List bp):=
 (cO l 0 (min (l.length:Int) most)).bind fun y=>
 (lm ([]:List bp) y).bind fun x=>
 some x

def j4(l:(List bl))(most:Int):Option (List bl):=
 (cO l 0 (min (l.length:Int) most)).bind fun y=>
 (lm ([]:List bl) y).bind fun x=>
 some x

def kN:List bp->Nat->aq->Option aq
 |[],i,out=>
  some out
 |e::tl,i,out=>
  (fg out.Tables (i:Int)).bind fun e1=>
  (fg out.Tables (i:Int)).bind fun e2=>
  (j4 e2.Columns (5:Int)).bind fun r1=>
  (qf e2.Keys (5:Int)).bind fun r2=>
  (some (out.Tables.set (i:Int).toNat ({e2 with Columns:=r1}:bp))).bind fun st=>
  (fg st (i:Int)).bind fun e3=>
  (some (st.set (i:Int).toNat ({e3 with Keys:=r2}:bp))).bind fun st1=>
  (kN tl) (i+1) ({out with Tables:=st1}:aq)

def sS(c:aq):Option aq:=
 (nq c.Tables (5:Int)).bind fun r=>
 kN r 0 ({(⟨r⟩:aq)with Tables:=r}:aq)

def mH(l:(List al))(most:Int):Option (List al):=
 (cO l 0 (min (l.length:Int) most)).bind fun y=>
 (lm ([]:List al) y).bind fun x=>
 some x

def mg(l:(List lT))(most:Int):Option (List lT):=
 (cO l 0 (min (l.length:Int) most)).bind fun y=>
 (lm ([]:List lT) y).bind fun x=>
 some x

def n8(l:(List eh))(most:Int):Option (List eh):=
 (cO l 0 (min (l.length:Int) most)).bind fun y=>
 (lm ([]:List eh) y).bind fun x=>
 some x

def n7(l:(List kw))(most:Int):Option (List kw):=
 (cO l 0 (min (l.length:Int) most)).bind fun y=>
 (lm ([]:List kw) y).bind fun x=>
 some x

def lB(l:(List ig))(most:Int):Option (List ig):=
 (cO l 0 (min (l.length:Int) most)).bind fun y=>
 (lm ([]:List ig) y).bind fun x=>
 some x

def n6(l:(List cj))(most:Int):Option (List cj):=
 (cO l 0 (min (l.length:Int) most)).bind fun y=>
 (lm ([]:List cj) y).bind fun x=>
 some x

def kO:List cj->Nat->ce->Option ce
 |[],i,out=>
  some out
 |e::tl,i,out=>
  (fg out.Nodes (i:Int)).bind fun e1=>
  (cO e1.Value.S 0 (min (e1.Value.S.length:Int) (60:Int))).bind fun y=>
  (cO e1.Table 0 (min (e1.Table.length:Int) (40:Int))).bind fun y1=>
  (cO e1.Name 0 (min (e1.Name.length:Int) (40:Int))).bind fun y2=>
  (some (out.Nodes.set (i:Int).toNat ({e1 with Value:=({e1.Value with S:=y}:bO)}:cj))).bind fun st=>
  (fg st (i:Int)).bind fun e2=>
  (some (st.set (i:Int).toNat ({e2 with Table:=y1}:cj))).bind fun st1=>
  (fg st1 (i:Int)).bind fun e3=>
  (some (st1.set (i:Int).toNat ({e3 with Name:=y2}:cj))).bind fun st2=>
  (kO tl) (i+1) ({out with Nodes:=st2}:ce)

def mG(t:ce):Option ce:=
 (n6 t.Nodes (80:Int)).bind fun r=>
 kO r 0 ({(⟨r⟩:ce)with Nodes:=r}:ce)

def lz(nx:Nat->aN->Option aN)(i:Nat)(q1:aN):List kw->Nat->al->Option aN
 |[],i2,s1=>
  (mG s1.Where).bind fun r5=>
  (mG s1.Having).bind fun r6=>
  (some (q1.Selects.set (i:Int).toNat ({({({({s1 with Where:=r5}:al)with Having:=r6}:al)with Items:=s1.Items}:al)with Joins:=s1.Joins}:al))).bind fun st=>
  nx (i+1) ({q1 with Selects:=st}:aN)
 |e4::tl2,i2,s1=>
  (fg s1.Joins (i2:Int)).bind fun e5=>
  (fg s1.Joins (i2:Int)).bind fun e6=>
  (mG e6.On).bind fun r7=>
  (some (s1.Joins.set (i2:Int).toNat ({e6 with On:=r7}:kw))).bind fun st1=>
  (lz nx i q1 tl2) (i2+1) ({s1 with Joins:=st1}:al)

def lA(nx:Nat->aN->Option aN)(i:Nat)(q1:aN):List eh->Nat->al->Option aN
 |[],i1,s=>
  lz nx i q1 s.Joins 0 s
 |e3::tl1,i1,s=>
  (fg s.Items (i1:Int)).bind fun e7=>
  (fg s.Items (i1:Int)).bind fun e8=>
  (mG e8.Tree).bind fun r8=>
  (some (s.Items.set (i1:Int).toNat ({e8 with Tree:=r8}:eh))).bind fun st2=>
  (lA nx i q1 tl1) (i1+1) ({s with Items:=st2}:al)

def f8:List al->Nat->aN->Option aN
 |[],i,q1=>
  some q1
 |e::tl,i,q1=>
  (fg q1.Selects (i:Int)).bind fun e1=>
  (fg q1.Selects (i:Int)).bind fun e2=>
  (n8 e2.Items (7:Int)).bind fun r2=>
  (n7 e2.Joins (3:Int)).bind fun r3=>
  (lB e2.Group (4:Int)).bind fun r4=>
  lA (f8 tl) i q1 r2 0 ({({({e2 with Group:=r4}:al)with Items:=r2}:al)with Joins:=r3}:al)

def pO(q:aN):Option aN:=
 (mH q.Selects (4:Int)).bind fun r=>
 (mg q.Keys (4:Int)).bind fun r1=>
 f8 r 0 ({({q with Keys:=r1}:aN)with Selects:=r}:aN)

def sM(c:Int):Option Bool:=
 some ((decide ((97:Int)<=c))&&(decide (c<=(122:Int))))

def rh(s:bZ):List bZ->Option Bool
 |[]=>
  some false
 |e::tl=>
  if(e==s)then
  (some true)
  else
  ((rh s tl))

def F7(l:(List bZ))(s:bZ):Option Bool:=
 rh s l

def B0:Option (List bZ):=
 some ([[83,69,76,69,67,84],[68,73,83,84,73,78,67,84],[70,82,79,77],[76,69,70,84],[74,79,73,78],[79,78],[87,72,69,82,69],[71,82,79,85,80],[66,89],[72,65,86,73,78,71],[85,78,73,79,78],[65,76,76],[79,82,68,69,82],[76,73,77,73,84],[65,83,67],[68,69,83,67],[65,83],[65,78,68],[79,82],[78,79,84],[73,83],[78,85,76,76],[84,82,85,69],[70,65,76,83,69],[67,79,85,78,84],[83,85,77],[77,73,78],[77,65,88]])

def uF(s:bZ):Option Bool:=
 (B0).bind fun r=>
 (F7 r s).bind fun r1=>
 some r1

def o6(nx:(List Int)->Int->Option bZ)(out:List Int)(i:Int)(c1:Int):Option bZ:=
 (lm out ([c1])).bind fun out1=>
 nx out1 (IntKind.i64.wrap (i+(1:Int)))

def mC(s:bZ):Nat->(List Int)->Int->Option bZ
  |0,_,_=>none
  |n+1,out,i=>
    if(decide (i<(s.length:Int)))then
    ((qO s i).bind fun b=>
    (sM b).bind fun r=>
    if r then
    (o6 (mC s n) out i (IntKind.u8.wrap ((IntKind.u8.wrap (b-(97:Int)))+(65:Int))))
    else
    (o6 (mC s n) out i b))
    else
    (some (pw out))

def wm(s:bZ):Option bZ:=
 mC s gx ([]:List Int) (0:Int)

def BZ(c:Int):Option Bool:=
 some ((decide ((48:Int)<=c))&&(decide (c<=(57:Int))))

def nM(s:bZ):Nat->Int->Option Bool
  |0,_=>none
  |n+1,i=>
    if(decide (i<(s.length:Int)))then
    ((qO s i).bind fun b1=>
    (sM b1).bind fun r3=>
    (if(!r3)then((qO s i).bind fun b2=>
    (BZ b2).bind fun r4=>
    some (!r4))else some false).bind fun t2=>
    (if t2 then((qO s i).bind fun b3=>
    some (b3 !=(95:Int)))else some false).bind fun t3=>
    if t3 then
    (some false)
    else
    ((nM s n) (IntKind.i64.wrap (i+(1:Int)))))
    else
    (some true)

def ri(s:bZ):Option Bool:=
  (if(!((decide ((s.length:Int)<(1:Int)))||(decide ((16:Int)<(s.length:Int)))))then((qO s (0:Int)).bind fun b=>
  (sM b).bind fun r=>
  some (!r))else some true).bind fun t=>
  (if(!t)then((wm s).bind fun r1=>
  (uF r1).bind fun r2=>
  some r2)else some true).bind fun t1=>
  if t1 then
  (some false)
  else
  (nM s gx (0:Int))

def yZ(kind:Int):Option bZ:=
  if(kind==(1:Int))then
  (some ([98,111,111,108]))
  else
  (if(kind==(2:Int))then
  (some ([105,110,116]))
  else
  (if(kind==(3:Int))then
  (some ([116,101,120,116]))
  else
  (some ([]))))

def kA(t:bp)(nx:Int->Option Bool)(i:Int)(e:bl):Nat->Int->Option Bool
  |0,_=>none
  |n1+1,k=>
    if(decide (k<i))then
    ((fg t.Columns k).bind fun e1=>
    if(e1.Name==e.Name)then
    (some false)
    else
    ((kA t nx i e n1) (IntKind.i64.wrap (k+(1:Int)))))
    else
    (nx (IntKind.i64.wrap (i+(1:Int))))

def ky(t:bp):Nat->Int->Option Bool
  |0,_=>none
  |n2+1,i1=>
    if(decide (i1<(t.Keys.length:Int)))then
    ((fg t.Keys i1).bind fun e2=>
    (if(!((decide (e2<(0:Int)))||(decide ((t.Columns.length:Int)<=e2))))then((if(decide ((0:Int)<i1))then((fg t.Keys (IntKind.i64.wrap (i1-(1:Int)))).bind fun e3=>
    some (decide (e2<=e3)))else some false).bind fun t3=>
    some t3)else some true).bind fun t2=>
    if t2 then
    (some false)
    else
    ((ky t n2) (IntKind.i64.wrap (i1+(1:Int)))))
    else
    (some true)

def kB(t:bp):Nat->Int->Option Bool
  |0,_=>none
  |n+1,i=>
    if(decide (i<(t.Columns.length:Int)))then
    ((fg t.Columns i).bind fun e=>
    (ri e.Name).bind fun r1=>
    (if(!(!r1))then((yZ e.Kind).bind fun r2=>
    some (r2==([])))else some true).bind fun t1=>
    if t1 then
    (some false)
    else
    (kA t (kB t n) i e gx (0:Int)))
    else
    (ky t gx (0:Int))

def pK(t:bp):Option Bool:=
 (ri t.Name).bind fun r=>
 if(((!r)||(decide ((t.Columns.length:Int)<(1:Int))))||(decide ((4:Int)<(t.Columns.length:Int))))then
 (some false)
 else
 (kB t gx (0:Int))

def oZ(c:aq)(nx:Int->Option Bool)(i:Int)(e:bp):Nat->Int->Option Bool
  |0,_=>none
  |n1+1,k=>
    if(decide (k<i))then
    ((fg c.Tables k).bind fun e1=>
    if(e1.Name==e.Name)then
    (some false)
    else
    ((oZ c nx i e n1) (IntKind.i64.wrap (k+(1:Int)))))
    else
    (nx (IntKind.i64.wrap (i+(1:Int))))

def o0(c:aq):Nat->Int->Option Bool
  |0,_=>none
  |n+1,i=>
    if(decide (i<(c.Tables.length:Int)))then
    ((fg c.Tables i).bind fun e=>
    (pK e).bind fun r=>
    if(!r)then
    (some false)
    else
    (oZ c (o0 c n) i e gx (0:Int)))
    else
    (some true)

def wi(c:aq):Option Bool:=
 if(decide ((4:Int)<(c.Tables.length:Int)))then
 (some false)
 else
 (o0 c gx (0:Int))

def BY:Option (List bZ):=
 some ([[83,69,76,69,67,84],[68,73,83,84,73,78,67,84],[70,82,79,77],[76,69,70,84],[74,79,73,78],[79,78],[87,72,69,82,69],[71,82,79,85,80],[66,89],[72,65,86,73,78,71],[85,78,73,79,78],[65,76,76],[79,82,68,69,82],[76,73,77,73,84],[65,83,67],[68,69,83,67],[65,83],[65,78,68],[79,82],[78,79,84],[73,83],[78,85,76,76],[84,82,85,69],[70,65,76,83,69],[67,79,85,78,84],[83,85,77],[77,73,78],[77,65,88]])

def nK(nx:(List Int)->Int->Option Bool)(up:List Int)(x:Int)(c2:Int):Option Bool:=
 (lm up ([c2])).bind fun up1=>
 nx up1 (IntKind.i64.wrap (x+(1:Int)))

def lP(up:List Int)(r:(List bZ)):Nat->Nat->Option Bool
 |0,i=>
  some true
 |k1+1,i=>
  (fg r (i:Int)).bind fun e1=>
  if(e1==(pw up))then
  (some false)
  else
  ((lP up r k1) (i+1))

def lQ(s:bZ):Nat->(List Int)->Int->Option Bool
  |0,_,_=>none
  |n+1,up,x=>
    if(decide (x<(s.length:Int)))then
    ((qO s x).bind fun b2=>
    if(((!((decide ((97:Int)<=b2))&&(decide (b2<=(122:Int)))))&&((decide (b2<(48:Int)))||(decide ((57:Int)<b2))))&&(b2 !=(95:Int)))then
    (some false)
    else
    (if((decide ((97:Int)<=b2))&&(decide (b2<=(122:Int))))then
    (nK (lQ s n) up x (IntKind.u8.wrap (b2-(32:Int))))
    else
    (nK (lQ s n) up x b2)))
    else
    ((BY).bind fun r=>
    lP up r 28 0)

def m6(s:bZ):Option Bool:=
  (if(!((decide ((s.length:Int)<(1:Int)))||(decide ((16:Int)<(s.length:Int)))))then((qO s (0:Int)).bind fun b=>
  some (decide (b<(97:Int))))else some true).bind fun t=>
  (if(!t)then((qO s (0:Int)).bind fun b1=>
  some (decide ((122:Int)<b1)))else some true).bind fun t1=>
  if t1 then
  (some false)
  else
  (lQ s gx ([]:List Int) (0:Int))

def mA(s:bZ):Option Bool:=
  (if(!(s==([])))then((m6 s).bind fun r=>
  some r)else some true).bind fun t=>
  some t

def sL(tag:Int):Option Int:=
  if((decide (tag<(1:Int)))||(decide ((23:Int)<tag)))then
  (some (-1:Int))
  else
  (if(decide (tag<=(3:Int)))then
  (some (0:Int))
  else
  (if(decide (tag<=(11:Int)))then
  (some (1:Int))
  else
  (some (2:Int))))

def oo(v:bO):Option Bool:=
  if(v.Kind==(0:Int))then
  (some (decide (v=(⟨(0:Int),(0:Int),(0:Int),[]⟩:bO))))
  else
  (if(v.Kind==(1:Int))then
  (some (((v.U==(0:Int))&&(v.S==([])))&&((v.N==(0:Int))||(v.N==(1:Int)))))
  else
  (if(v.Kind==(2:Int))then
  (some ((v.U==(0:Int))&&(v.S==([]))))
  else
  (if(v.Kind==(3:Int))then
  (some (((v.N==(0:Int))&&(v.U==(0:Int)))&&(decide ((v.S.length:Int)<=(40:Int)))))
  else
  (some ((v.Kind==(4:Int))&&(v.S==([])))))))

def sN(v:bO):Option Bool:=
 (oo v).bind fun r=>
 some (r&&(v.Kind !=(4:Int)))

def m5(v:bO):Nat->Int->Option Bool
  |0,_=>none
  |n+1,x=>
    if(decide (x<(v.S.length:Int)))then
    ((qO v.S x).bind fun b=>
    (if(!(decide (b<(32:Int))))then((qO v.S x).bind fun b1=>
    some (decide ((126:Int)<b1)))else some true).bind fun t=>
    if t then
    (some false)
    else
    ((m5 v n) (IntKind.i64.wrap (x+(1:Int)))))
    else
    ((sN v).bind fun r=>
    some (r&&(decide ((0:Int)<=v.N))))

def yn(v:bO):Option Bool:=
 m5 v gx (0:Int)

def uE(n:cj):Option Bool:=
  if(n.Tag==(1:Int))then
  ((yn n.Value).bind fun r=>
  some ((r&&(n.Table==([])))&&(n.Name==([]))))
  else
  (if(n.Tag==(2:Int))then
  ((if(decide (n.Value=(⟨(0:Int),(0:Int),(0:Int),[]⟩:bO)))then((m6 n.Name).bind fun r1=>
  some r1)else some false).bind fun t=>
  (if t then((mA n.Table).bind fun r2=>
  some r2)else some false).bind fun t1=>
  some t1)
  else
  (some (((decide (n.Value=(⟨(0:Int),(0:Int),(0:Int),[]⟩:bO)))&&(n.Table==([])))&&(n.Name==([])))))

def ip:Nat->ce->Int->Option (Int×Int)
  |0,_,_=>none
  |fu+1,t,place=>
    if((decide (place<(0:Int)))||(decide ((t.Nodes.length:Int)<=place)))then
    (some ((0:Int),(0:Int)))
    else
    ((fg t.Nodes place).bind fun e=>
    (sL e.Tag).bind fun r=>
    (if(!(decide (r<(0:Int))))then((uE e).bind fun r1=>
    some (!r1))else some true).bind fun t1=>
    if t1 then
    (some ((0:Int),(0:Int)))
    else
    (if(r==(0:Int))then
    (if((e.L !=(-1:Int))||(e.R !=(-1:Int)))then
    (some ((0:Int),(0:Int)))
    else
    (some ((1:Int),(1:Int))))
    else
    (((ip fu) t (IntKind.i64.wrap (place-(1:Int)))).bind fun r2=>
    if(r2.1==(0:Int))then
    (some ((0:Int),(0:Int)))
    else
    (if(r==(1:Int))then
    (if((e.L !=(IntKind.i64.wrap (place-(1:Int))))||(e.R !=(-1:Int)))then
    (some ((0:Int),(0:Int)))
    else
    (some ((IntKind.i64.wrap (r2.1+(1:Int))),(IntKind.i64.wrap (r2.2+(1:Int))))))
    else
    (((ip fu) t (IntKind.i64.wrap ((IntKind.i64.wrap (place-(1:Int)))-r2.1))).bind fun r3=>
    if(((r3.1==(0:Int))||(e.R !=(IntKind.i64.wrap (place-(1:Int)))))||(e.L !=(IntKind.i64.wrap ((IntKind.i64.wrap (place-(1:Int)))-r2.1))))then
    (some ((0:Int),(0:Int)))
    else
    (some ((IntKind.i64.wrap ((IntKind.i64.wrap (r2.1+r3.1))+(1:Int))),(IntKind.i64.wrap ((max r2.2 r3.2)+(1:Int))))))))))

def DZ(t:ce)(place:Int):Option (Int×Int):=
 ip gx t place

def lO(t:ce):Option Bool:=
  if((decide ((t.Nodes.length:Int)<(1:Int)))||(decide ((300:Int)<(t.Nodes.length:Int))))then
  (some false)
  else
  ((DZ t (IntKind.i64.wrap ((t.Nodes.length:Int)-(1:Int)))).bind fun r=>
  some ((r.1==(t.Nodes.length:Int))&&(decide (r.2<=(20:Int)))))

def rf(s:da):Option Bool:=
  (m6 s.Table).bind fun r=>
  (if r then((mA s.As).bind fun r1=>
  some r1)else some false).bind fun t=>
  some t

def uD(t:ce):Option Bool:=
  (if(!((t.Nodes.length:Int)==(0:Int)))then((lO t).bind fun r=>
  some r)else some true).bind fun t1=>
  some t1

def kJ(s:al):List ig->Option Bool
  |[]=>
    (rf s.From).bind fun r=>
    (if r then((uD s.Where).bind fun r1=>
    some r1)else some false).bind fun t=>
    (if t then((uD s.Having).bind fun r2=>
    some r2)else some false).bind fun t1=>
    some t1
  |e2::tl2=>
    (m6 e2.Name).bind fun r3=>
    (if(!(!r3))then((mA e2.Table).bind fun r4=>
    some (!r4))else some true).bind fun t2=>
    if t2 then
    (some false)
    else
    ((kJ s tl2))

def kK(s:al):List kw->Option Bool
  |[]=>
    kJ s s.Group
  |e1::tl1=>
    (rf e1.Source).bind fun r5=>
    (if(!(!r5))then((lO e1.On).bind fun r6=>
    some (!r6))else some true).bind fun t3=>
    if t3 then
    (some false)
    else
    ((kK s tl1))

def kL(s:al):List eh->Option Bool
  |[]=>
    kK s s.Joins
  |e::tl=>
    (lO e.Tree).bind fun r7=>
    (if(!(!r7))then((mA e.As).bind fun r8=>
    some (!r8))else some true).bind fun t4=>
    if t4 then
    (some false)
    else
    ((kL s tl))

def tG(s:al):Option Bool:=
 if((((s.Star !=((s.Items.length:Int)==(0:Int)))||(decide ((6:Int)<(s.Items.length:Int))))||(decide ((2:Int)<(s.Joins.length:Int))))||(decide ((3:Int)<(s.Group.length:Int))))then
 (some false)
 else
 (kL s s.Items)

def o4:List lT->Option Bool
 |[]=>
  some true
 |e1::tl1=>
  (mA e1.Name).bind fun r=>
  if((((!r)||(decide (e1.Number<(0:Int))))||(decide ((2147483647:Int)<e1.Number)))||((!(e1.Name==([])))&&(e1.Number !=(0:Int))))then
  (some false)
  else
  ((o4 tl1))

def mB(q:aN):List al->Option Bool
 |[]=>
  o4 q.Keys
 |e::tl=>
  (tG e).bind fun r1=>
  if(!r1)then
  (some false)
  else
  ((mB q tl))

def wl(q:aN):Option Bool:=
 if(((((decide ((q.Selects.length:Int)<(1:Int)))||(decide ((3:Int)<(q.Selects.length:Int))))||(decide ((3:Int)<(q.Keys.length:Int))))||(decide (q.Limit<(-1:Int))))||(decide ((2147483647:Int)<q.Limit)))then
 (some false)
 else
 (mB q q.Selects)

def p7(c:aq)(name:bZ):Nat->Int->Option Int
  |0,_=>none
  |n+1,i=>
    if(decide (i<(c.Tables.length:Int)))then
    ((fg c.Tables i).bind fun e=>
    if(e.Name==name)then
    (some i)
    else
    ((p7 c name n) (IntKind.i64.wrap (i+(1:Int)))))
    else
    (some (-1:Int))

def rW(c:aq)(name:bZ):Option Int:=
 p7 c name gx (0:Int)

def oW(s:da):Option bZ:=
 if(!(s.As==([])))then
 (some s.As)
 else
 (some s.Table)

def gE(b:au)(s:da)(r:Int):List da->Option (Int×au)
 |[]=>
  (lm b.sources ([s])).bind fun l=>
  (lm b.out.Tables ([r])).bind fun l1=>
  some ((0:Int),({({b with sources:=l}:au)with out:=({({b with sources:=l}:au).out with Tables:=l1}:aS)}:au))
 |e::tl=>
  (oW e).bind fun r1=>
  (oW s).bind fun r2=>
  if(r1==r2)then
  (some ((221:Int),b))
  else
  ((gE b s r tl))

def jd(b:au)(s:da):Option (Int×au):=
 (rW b.c s.Table).bind fun r=>
 if(decide (r<(0:Int)))then
 (some ((220:Int),b))
 else
 (gE b s r b.sources)

def oY(nx:(List Int)->Option (List Int)):List bl->(List Int)->Option (List Int)
 |[],out1=>
  nx out1
 |e2::tl1,out1=>
  (lm out1 ([e2.Kind])).bind fun out2=>
  (oY nx tl1) out2

def my(c:aq):List Int->(List Int)->Option (List Int)
 |[],out=>
  some out
 |e::tl,out=>
  (fg c.Tables e).bind fun e1=>
  oY (my c tl) e1.Columns out

def jr(c:aq)(tables:(List Int)):Option (List Int):=
 my c tables ([]:List Int)

def nI(t:bp)(name:bZ):Nat->Int->Option Int
  |0,_=>none
  |n+1,i=>
    if(decide (i<(t.Columns.length:Int)))then
    ((fg t.Columns i).bind fun e=>
    if(e.Name==name)then
    (some i)
    else
    ((nI t name n) (IntKind.i64.wrap (i+(1:Int)))))
    else
    (some (-1:Int))

def uB(t:bp)(name:bZ):Option Int:=
 nI t name gx (0:Int)

def gF(nx:Nat->Int->Int->Int->Option (Int×Int))(i:Nat)(first:Int)(e2:bp)(found1:Int)(many1:Int):Option (Int×Int):=
 nx (i+1) found1 many1 (IntKind.i64.wrap (first+(e2.Columns.length:Int)))

def fH(b:au)(table:bZ)(name:bZ):List da->Nat->Int->Int->Int->Option (Int×Int)
  |[],i,found,many,first=>
    if(many==(0:Int))then
    (some ((0:Int),(222:Int)))
    else
    (if(many==(1:Int))then
    (some (found,(0:Int)))
    else
    (some ((0:Int),(223:Int))))
  |e::tl,i,found,many,first=>
    (fg b.out.Tables (i:Int)).bind fun e1=>
    (fg b.c.Tables e1).bind fun e2=>
    (uB e2 name).bind fun r=>
    (if(decide ((0:Int)<=r))then((if(!(table==([])))then((oW e).bind fun r1=>
    some (table==r1))else some true).bind fun t1=>
    some t1)else some false).bind fun t=>
    if t then
    (gF (fH b table name tl) i first e2 (IntKind.i64.wrap (first+r)) (IntKind.i64.wrap (many+(1:Int))))
    else
    (gF (fH b table name tl) i first e2 found many)

def je(b:au)(table:bZ)(name:bZ):Option (Int×Int):=
 fH b table name b.sources 0 (0:Int) (0:Int) (0:Int)

def p9(nx1:aD->Option aD)(out1:aD)(n1:ap):Option aD:=
 (lm out1.Nodes ([n1])).bind fun l5=>
 nx1 ({out1 with Nodes:=l5}:aD)

def tF(out:aD)(nx1:aD->Option aD)(out1:aD)(n:ap):Option aD:=
 if(decide ((0:Int)<=n.R))then
 (p9 nx1 out1 (ap.mk n.Tag n.L (IntKind.i64.wrap (n.R+(out.Nodes.length:Int))) n.Col n.Value))
 else
 (p9 nx1 out1 n)

def eK(nx:Nat->ap->aD->Option aD)(i:Nat)(root1:ap)(out:aD):List ap->aD->Option aD
 |[],out1=>
  if((i:Int)==(0:Int))then
  (nx (i+1) (ap.mk root1.Tag (IntKind.i64.wrap ((out1.Nodes.length:Int)-(1:Int))) root1.R root1.Col root1.Value) out1)
  else
  (nx (i+1) (ap.mk root1.Tag root1.L (IntKind.i64.wrap ((out1.Nodes.length:Int)-(1:Int))) root1.Col root1.Value) out1)
 |e1::tl1,out1=>
  if(decide ((0:Int)<=e1.L))then
  (tF out (eK nx i root1 out tl1) out1 (ap.mk e1.Tag (IntKind.i64.wrap (e1.L+(out.Nodes.length:Int))) e1.R e1.Col e1.Value))
  else
  (tF out (eK nx i root1 out tl1) out1 e1)

def kf:List aD->Nat->ap->aD->Option aD
 |[],i,root1,out=>
  (lm out.Nodes ([root1])).bind fun l2=>
  some ({out with Nodes:=l2}:aD)
 |e::tl,i,root1,out=>
  eK (kf tl) i root1 out e.Nodes out

def fx(root:ap)(l:(List aD)):Option aD:=
 kf l 0 (ap.mk root.Tag (-1:Int) (-1:Int) root.Col root.Value) ({(⟨[]⟩:aD)with Nodes:=([]:List ap)}:aD)

def wk(tag:Int):Option Int:=
  if((tag==(3:Int))||((decide ((8:Int)<=tag))&&(decide (tag<=(11:Int)))))then
  (some (-1:Int))
  else
  ((sL tag).bind fun r=>
  some r)

def io(n:ap):Option Bool:=
  if(n.Tag==(1:Int))then
  ((sN n.Value).bind fun r=>
  some (r&&(n.Col==(0:Int))))
  else
  (if(n.Tag==(2:Int))then
  (some (((decide (n.Value=(⟨(0:Int),(0:Int),(0:Int),[]⟩:bO)))&&(decide ((0:Int)<=n.Col)))&&(decide (n.Col<(16:Int)))))
  else
  (some ((decide (n.Value=(⟨(0:Int),(0:Int),(0:Int),[]⟩:bO)))&&(n.Col==(0:Int)))))

def im:Nat->aD->Int->Option Int
  |0,_,_=>none
  |fu+1,e,place=>
    if((decide (place<(0:Int)))||(decide ((e.Nodes.length:Int)<=place)))then
    (some (0:Int))
    else
    ((fg e.Nodes place).bind fun e1=>
    (wk e1.Tag).bind fun r=>
    (if(!(decide (r<(0:Int))))then((io e1).bind fun r1=>
    some (!r1))else some true).bind fun t=>
    if t then
    (some (0:Int))
    else
    (if(r==(0:Int))then
    (if((e1.L !=(-1:Int))||(e1.R !=(-1:Int)))then
    (some (0:Int))
    else
    (some (1:Int)))
    else
    (((im fu) e (IntKind.i64.wrap (place-(1:Int)))).bind fun r2=>
    if(r2==(0:Int))then
    (some (0:Int))
    else
    (if(r==(1:Int))then
    (if((e1.L !=(IntKind.i64.wrap (place-(1:Int))))||(e1.R !=(-1:Int)))then
    (some (0:Int))
    else
    (some (IntKind.i64.wrap (r2+(1:Int)))))
    else
    (((im fu) e (IntKind.i64.wrap ((IntKind.i64.wrap (place-(1:Int)))-r2))).bind fun r3=>
    if(((r3==(0:Int))||(e1.R !=(IntKind.i64.wrap (place-(1:Int)))))||(e1.L !=(IntKind.i64.wrap ((IntKind.i64.wrap (place-(1:Int)))-r2))))then
    (some (0:Int))
    else
    (some (IntKind.i64.wrap ((IntKind.i64.wrap (r3+r2))+(1:Int)))))))))

def DW(e:aD)(place:Int):Option Int:=
 im gx e place

def wj(e:aD):Option Bool:=
  (if((decide ((1:Int)<=(e.Nodes.length:Int)))&&(decide ((e.Nodes.length:Int)<=(1000:Int))))then((DW e (IntKind.i64.wrap ((e.Nodes.length:Int)-(1:Int)))).bind fun r=>
  some (r==(e.Nodes.length:Int)))else some false).bind fun t=>
  some t

def pL(k:Int)(want:Int):Option Bool:=
 some ((k==want)||(k==(0:Int)))

def rX(tag:Int)(l:Int)(r:Int):Option (Int×Bool):=
  if((tag==(4:Int))||((decide ((12:Int)<=tag))&&(decide (tag<=(15:Int)))))then
  ((pL l (2:Int)).bind fun r1=>
  (if r1 then((pL r (2:Int)).bind fun r2=>
  some r2)else some false).bind fun t=>
  some ((2:Int),t))
  else
  (if((tag==(5:Int))||(decide ((22:Int)<=tag)))then
  ((pL l (1:Int)).bind fun r3=>
  (if r3 then((pL r (1:Int)).bind fun r4=>
  some r4)else some false).bind fun t1=>
  some ((1:Int),t1))
  else
  (if((tag==(6:Int))||(tag==(7:Int)))then
  (some ((1:Int),true))
  else
  (some ((1:Int),(((l==r)||(l==(0:Int)))||(r==(0:Int)))))))

def qb(nx2:(List Int)->Option (Int×Int))(e3:ap)(own:List Int)(e6:Int)(r1:Int):Option (Int×Int):=
  (rX e3.Tag e6 r1).bind fun r2=>
  if(!r2.2)then
  (some ((0:Int),(201:Int)))
  else
  ((lm own ([r2.1])).bind fun own3=>
  nx2 own3)

def dk(kinds:(List Int)):List ap->(List Int)->Option (Int×Int)
  |[],own=>
    (fg own (IntKind.i64.wrap ((own.length:Int)-(1:Int)))).bind fun e4=>
    some (e4,(0:Int))
  |e3::tl2,own=>
    if(e3.Tag==(1:Int))then
    ((lm own ([e3.Value.Kind])).bind fun own1=>
    (dk kinds tl2) own1)
    else
    (if(e3.Tag==(2:Int))then
    ((fg kinds e3.Col).bind fun e5=>
    (lm own ([e5])).bind fun own2=>
    (dk kinds tl2) own2)
    else
    ((fg own e3.L).bind fun e6=>
    if(decide ((0:Int)<=e3.R))then
    ((fg own e3.R).bind fun e7=>
    qb (dk kinds tl2) e3 own e6 e7)
    else
    (qb (dk kinds tl2) e3 own e6 (0:Int))))

def nA(e:aD)(kinds:(List Int)):List ap->Option (Int×Int)
 |[]=>
  dk kinds e.Nodes ([]:List Int)
 |e2::tl1=>
  if((e2.Tag==(2:Int))&&(decide ((kinds.length:Int)<=e2.Col)))then
  (some ((0:Int),(2:Int)))
  else
  ((nA e kinds tl1))

def qa(e:aD)(kinds:(List Int)):List Int->Option (Int×Int)
 |[]=>
  nA e kinds e.Nodes
 |e1::tl=>
  if((decide (e1<(0:Int)))||(decide ((3:Int)<e1)))then
  (some ((0:Int),(2:Int)))
  else
  ((qa e kinds tl))

def pM(e:aD)(kinds:(List Int)):Option (Int×Int):=
 (wj e).bind fun r=>
 if(!r)then
 (some ((0:Int),(200:Int)))
 else
 (qa e kinds kinds)

def p6(a1:jT)(kinds:(List Int)):Option (Int×Bool):=
  if(a1.Tag==(1:Int))then
  (some ((2:Int),true))
  else
  ((pM a1.Arg kinds).bind fun r=>
  if((r.2 !=(0:Int))||(((a1.Tag==(3:Int))&&(r.1 !=(2:Int)))&&(r.1 !=(0:Int))))then
  (some ((0:Int),false))
  else
  (if((a1.Tag==(2:Int))||(a1.Tag==(3:Int)))then
  (some ((2:Int),true))
  else
  (some (r.1,true))))

def jf(r:(List Int)):List jT->(List Int)->Option (List Int)
 |[],out1=>
  some out1
 |e1::tl1,out1=>
  (p6 e1 r).bind fun r1=>
  (lm out1 ([r1.1])).bind fun out2=>
  (jf r tl1) out2

def jg(s:aS)(r:(List Int)):List Int->(List Int)->Option (List Int)
 |[],out=>
  jf r s.Aggs out
 |e::tl,out=>
  (fg r e).bind fun e2=>
  (lm out ([e2])).bind fun out3=>
  (jg s r tl) out3

def jx(c:aq)(s:aS):Option (List Int):=
 (jr c s.Tables).bind fun r=>
 jg s r s.Keys ([]:List Int)

def jW(tag:Int):Option Bool:=
 some ((tag==(3:Int))||((decide ((8:Int)<=tag))&&(decide (tag<=(11:Int)))))

def p8(b:aD):List ap->Nat->Option Bool
 |[],i=>
  some true
 |e::tl,i=>
  (fg b.Nodes (i:Int)).bind fun e1=>
  if(!decide (e=e1))then
  (some false)
  else
  ((p8 b tl) (i+1))

def uC(a1:aD)(b:aD):Option Bool:=
 if((a1.Nodes.length:Int) !=(b.Nodes.length:Int))then
 (some false)
 else
 (p8 b a1.Nodes 0)

def kx(at1:Int)(ob:au):Option (aD×Int×au):=
  if(decide ((12:Int)<(ob.out.Aggs.length:Int)))then
  (some ((⟨[]⟩:aD),(228:Int),ob))
  else
  ((fx (⟨(2:Int),(0:Int),(0:Int),(IntKind.i64.wrap ((ob.out.Keys.length:Int)+at1)),(⟨(0:Int),(0:Int),(0:Int),[]⟩:bO)⟩:ap) ([])).bind fun r2=>
  some (r2,(0:Int),ob))

def eU(b:au)(a1:jT):List jT->Nat->Int->Option (aD×Int×au)
  |[],i,at1=>
    if(at1==(b.out.Aggs.length:Int))then
    ((lm b.out.Aggs ([a1])).bind fun l6=>
    kx at1 ({b with out:=({b.out with Aggs:=l6}:aS)}:au))
    else
    (kx at1 b)
  |e::tl,i,at1=>
    (if(e.Tag==a1.Tag)then((uC e.Arg a1.Arg).bind fun r3=>
    some r3)else some false).bind fun t=>
    if t then
    ((eU b a1 tl) (i+1) (i:Int))
    else
    ((eU b a1 tl) (i+1) at1)

def m4(b:au)(a1:jT):Option (aD×Int×au):=
 (jr b.c b.out.Tables).bind fun r=>
 (p6 a1 r).bind fun r1=>
 if(!r1.2)then
 (some ((⟨[]⟩:aD),(201:Int),b))
 else
 (eU b a1 b.out.Aggs 0 (b.out.Aggs.length:Int))

def uA(tag:Int):Option Int:=
  if(tag==(3:Int))then
  (some (1:Int))
  else
  (if(tag==(8:Int))then
  (some (2:Int))
  else
  (if(tag==(9:Int))then
  (some (3:Int))
  else
  (if(tag==(10:Int))then
  (some (4:Int))
  else
  (some (5:Int)))))

def gp(b:au)(r1:Int×Int)(at1:Int)(x:aD):Option (aD×Int×au):=
 (fx (⟨(2:Int),(0:Int),(0:Int),at1,(⟨(0:Int),(0:Int),(0:Int),[]⟩:bO)⟩:ap) ([])).bind fun r2=>
 some (r2,r1.2,b)

def dg(b:au)(r1:Int×Int):Nat->Int->Int->Option (aD×Int×au)
  |0,_,_=>none
  |n+1,own,i1=>
    if(decide ((0:Int)<=i1))then
    ((fg b.out.Keys i1).bind fun e1=>
    if(e1==r1.1)then
    ((dg b r1 n) i1 (IntKind.i64.wrap (i1-(1:Int))))
    else
    ((dg b r1 n) own (IntKind.i64.wrap (i1-(1:Int)))))
    else
    (if(decide (own<(0:Int)))then
    (some ((⟨[]⟩:aD),(225:Int),b))
    else
    (gp b r1 own (⟨[]⟩:aD)))

def gn(e:cj)(arg:aD)(ob:au)(e3:Int):Option (aD×Int×au):=
  if(e3 !=(0:Int))then
  (some ((⟨[]⟩:aD),e3,ob))
  else
  ((uA e.Tag).bind fun r4=>
  (m4 ob (⟨r4,arg⟩:jT)).bind fun r5=>
  some (r5.1,r5.2.1,r5.2.2))

def iC(group:Bool)(e:cj)(e2:Int)(arg:aD)(ob:au):Option (aD×Int×au):=
 if((e2==(0:Int))&&(!group))then
 (gn e arg ob (224:Int))
 else
 (gn e arg ob e2)

def mw(out:aD)(ob1:au)(kinds:(List Int)):Option (aD×Int×au):=
 (pM out kinds).bind fun r10=>
 some (out,r10.2,ob1)

def iB(group:Bool)(x1:aD)(out:aD)(ob1:au):Option (aD×Int×au):=
  (jr ob1.c ob1.out.Tables).bind fun r9=>
  if group then
  ((jx ob1.c ob1.out).bind fun r11=>
  mw out ob1 r11)
  else
  (mw out ob1 r9)

def bQ:Nat->au->ce->Int->Bool->Option (aD×Int×au)
  |0,_,_,_,_=>none
  |fu+1,b,t,place,group=>
    (fg t.Nodes place).bind fun e=>
    if(e.Tag==(1:Int))then
    ((fx (⟨(1:Int),(0:Int),(0:Int),(0:Int),e.Value⟩:ap) ([])).bind fun r=>
    some (r,(0:Int),b))
    else
    (if(e.Tag==(2:Int))then
    ((je b e.Table e.Name).bind fun r1=>
    if((r1.2==(0:Int))&&group)then
    (dg b r1 gx (-1:Int) (IntKind.i64.wrap ((b.out.Keys.length:Int)-(1:Int))))
    else
    (gp b r1 r1.1 (⟨[]⟩:aD)))
    else
    ((jW e.Tag).bind fun r3=>
    if r3 then
    (if(decide ((0:Int)<=e.L))then
    (((bQ fu) b t e.L false).bind fun r6=>
    iC group e r6.2.1 r6.1 r6.2.2)
    else
    (iC group e (0:Int) (⟨[]⟩:aD) b))
    else
    (((bQ fu) b t e.L group).bind fun r7=>
    if(r7.2.1 !=(0:Int))then
    (some ((⟨[]⟩:aD),r7.2.1,r7.2.2))
    else
    ((fx (⟨e.Tag,(0:Int),(0:Int),(0:Int),(⟨(0:Int),(0:Int),(0:Int),[]⟩:bO)⟩:ap) ([r7.1])).bind fun r8=>
    if(decide ((0:Int)<=e.R))then
    (((bQ fu) r7.2.2 t e.R group).bind fun r12=>
    if(r12.2.1 !=(0:Int))then
    (some ((⟨[]⟩:aD),r12.2.1,r12.2.2))
    else
    ((fx (⟨e.Tag,(0:Int),(0:Int),(0:Int),(⟨(0:Int),(0:Int),(0:Int),[]⟩:bO)⟩:ap) ([r7.1,r12.1])).bind fun r13=>
    iB group (⟨[]⟩:aD) r13 r12.2.2))
    else
    (iB group (⟨[]⟩:aD) r8 r7.2.2)))))

def sK(b:au)(t:ce)(place:Int)(group:Bool):Option (aD×Int×au):=
 bQ gx b t place group

def jG(b:au)(t:ce)(group:Bool):Option (aD×Int×au):=
 (sK b t (IntKind.i64.wrap ((t.Nodes.length:Int)-(1:Int))) group).bind fun r=>
 if(r.2.1 !=(0:Int))then
 (some ((⟨[]⟩:aD),r.2.1,r.2.2))
 else
 (some (r.1,(0:Int),r.2.2))

def fY(r:aD×Int×au)(kinds:(List Int)):Option (aD×Int×au):=
 (pM r.1 kinds).bind fun r2=>
 if((r2.1 !=(1:Int))&&(r2.1 !=(0:Int)))then
 (some ((⟨[]⟩:aD),(226:Int),r.2.2))
 else
 (some (r.1,(0:Int),r.2.2))

def hZ(b:au)(t:ce)(group:Bool):Option (aD×Int×au):=
  (jG b t group).bind fun r=>
  if(r.2.1 !=(0:Int))then
  (some (r.1,r.2.1,r.2.2))
  else
  ((jr r.2.2.c r.2.2.out.Tables).bind fun r1=>
  if group then
  ((jx r.2.2.c r.2.2.out).bind fun r3=>
  fY r r3)
  else
  (fY r r1))

def iD:List ig->au->Option (Int×Int×au)
  |[],ob2=>
    some ((0:Int),(0:Int),ob2)
  |e1::tl1,ob2=>
    (je ob2 e1.Table e1.Name).bind fun r1=>
    if(r1.2 !=(0:Int))then
    (some ((3:Int),r1.2,ob2))
    else
    ((lm ob2.out.Keys ([r1.1])).bind fun l18=>
    (iD tl1) ({ob2 with out:=({ob2.out with Keys:=l18}:aS)}:au))

def qo(s:al)(ob1:au):Option (Int×Int×au):=
 iD s.Group ob1

def cQ(s:al):List kw->au->Option (Int×Int×au)
  |[],ob=>
    if(decide ((0:Int)<(s.Where.Nodes.length:Int)))then
    ((hZ ob s.Where false).bind fun r2=>
    if(r2.2.1 !=(0:Int))then
    (some ((2:Int),r2.2.1,r2.2.2))
    else
    (qo s ({r2.2.2 with out:=({r2.2.2.out with Where:=r2.1}:aS)}:au)))
    else
    (qo s ob)
  |e::tl,ob=>
    (jd ob e.Source).bind fun r3=>
    if(r3.1 !=(0:Int))then
    (some ((1:Int),r3.1,r3.2))
    else
    ((hZ r3.2 e.On false).bind fun r4=>
    if(r4.2.1 !=(0:Int))then
    (some ((1:Int),r4.2.1,r4.2.2))
    else
    ((lm r4.2.2.out.Joins ([(⟨e.Left,r4.1⟩:mU)])).bind fun l20=>
    (cQ s tl) ({r4.2.2 with out:=({r4.2.2.out with Joins:=l20}:aS)}:au)))

def oX(b:au)(s:al):Option (Int×Int×au):=
 (jd b s.From).bind fun r=>
 if(r.1 !=(0:Int))then
 (some ((0:Int),r.1,r.2))
 else
 (cQ s s.Joins r.2)

def re:List cj->Option Bool
 |[]=>
  some false
 |e::tl=>
  (jW e.Tag).bind fun r=>
  if r then
  (some true)
  else
  ((re tl))

def F6(t:ce):Option Bool:=
 re t.Nodes

def kI:List eh->Bool->Option Bool
  |[],out=>
    some out
  |e::tl,out=>
    (if(!out)then((F6 e.Tree).bind fun r=>
    some r)else some true).bind fun t=>
    (kI tl) t

def tE(s:al):Option Bool:=
 kI s.Items ((decide ((0:Int)<(s.Group.length:Int)))||(decide ((0:Int)<(s.Having.Nodes.length:Int))))

def px(ob2:au):Option (Int×Int×au):=
 some ((0:Int),(0:Int),ob2)

def cR(s:al):List eh->au->Option (Int×Int×au)
  |[],ob1=>
    if(decide ((0:Int)<(s.Having.Nodes.length:Int)))then
    ((hZ ob1 s.Having true).bind fun r1=>
    if(r1.2.1 !=(0:Int))then
    (some ((5:Int),r1.2.1,r1.2.2))
    else
    (px ({r1.2.2 with out:=({r1.2.2.out with Having:=r1.1}:aS)}:au)))
    else
    (px ob1)
  |e::tl,ob1=>
    (jG ob1 e.Tree ob1.out.Grouped).bind fun r2=>
    if(r2.2.1 !=(0:Int))then
    (some ((4:Int),r2.2.1,r2.2.2))
    else
    ((lm r2.2.2.out.Items ([r2.1])).bind fun l18=>
    (cR s tl) ({r2.2.2 with out:=({r2.2.2.out with Items:=l18}:aS)}:au))

def fZ(s:al)(ob:au):Option (Int×Int×au):=
 cR s s.Items ob

def jP(s:al):List Int->Nat->au->Option (Int×Int×au)
 |[],i5,ob3=>
  fZ s ob3
 |e1::tl1,i5,ob3=>
  (fx (⟨(2:Int),(0:Int),(0:Int),(i5:Int),(⟨(0:Int),(0:Int),(0:Int),[]⟩:bO)⟩:ap) ([])).bind fun r4=>
  (lm ob3.out.Items ([r4])).bind fun l25=>
  (jP s tl1) (i5+1) ({ob3 with out:=({ob3.out with Items:=l25}:aS)}:au)

def jF(b:au)(s:al):Option (Int×Int×au):=
  (tE s).bind fun r=>
  if s.Star then
  (if((({({b with out:=({b.out with Grouped:=r}:aS)}:au)with out:=({({b with out:=({b.out with Grouped:=r}:aS)}:au).out with Distinct:=s.Distinct}:aS)}:au).out).Grouped)then
  (some ((4:Int),(227:Int),({({b with out:=({b.out with Grouped:=r}:aS)}:au)with out:=({({b with out:=({b.out with Grouped:=r}:aS)}:au).out with Distinct:=s.Distinct}:aS)}:au)))
  else
  ((jr (({({b with out:=({b.out with Grouped:=r}:aS)}:au)with out:=({({b with out:=({b.out with Grouped:=r}:aS)}:au).out with Distinct:=s.Distinct}:aS)}:au).c) b.out.Tables).bind fun r3=>
  jP s r3 0 ({({b with out:=({b.out with Grouped:=r}:aS)}:au)with out:=({({b with out:=({b.out with Grouped:=r}:aS)}:au).out with Distinct:=s.Distinct}:aS)}:au)))
  else
  (fZ s ({({b with out:=({b.out with Grouped:=r}:aS)}:au)with out:=({({b with out:=({b.out with Grouped:=r}:aS)}:au).out with Distinct:=s.Distinct}:aS)}:au))

def jH(kinds:(List Int)):List aD->(List Int)->Option (List Int)
 |[],out=>
  some out
 |e::tl,out=>
  (pM e kinds).bind fun r1=>
  (lm out ([r1.1])).bind fun out1=>
  (jH kinds tl) out1

def nY(s:aS)(kinds:(List Int)):Option (List Int):=
 jH kinds s.Items ([]:List Int)

def qL(c:aq)(s:aS):Option (List Int):=
  (jr c s.Tables).bind fun r=>
  if s.Grouped then
  ((jx c s).bind fun r2=>
  nY s r2)
  else
  (nY s r)

def rU(nx:(List bZ)->Option (List bZ))(out1:List bZ)(own:bZ):Option (List bZ):=
 (lm out1 ([own])).bind fun out2=>
 nx out2

def kH:List eh->(List bZ)->Option (List bZ)
 |[],out1=>
  some out1
 |e::tl,out1=>
  (fg e.Tree.Nodes (IntKind.i64.wrap ((e.Tree.Nodes.length:Int)-(1:Int)))).bind fun e1=>
  if((e.As==([]))&&(e1.Tag==(2:Int)))then
  (rU (kH tl) out1 e1.Name)
  else
  (rU (kH tl) out1 e.As)

def oV(s:al)(out:List bZ):Option (List bZ):=
 kH s.Items out

def mu(nx1:(List bZ)->Option (List bZ)):List bl->(List bZ)->Option (List bZ)
 |[],out4=>
  nx1 out4
 |e4::tl2,out4=>
  (lm out4 ([e4.Name])).bind fun out5=>
  (mu nx1 tl2) out5

def mv(c:aq)(s:al):List Int->(List bZ)->Option (List bZ)
 |[],out3=>
  oV s out3
 |e2::tl1,out3=>
  (fg c.Tables e2).bind fun e3=>
  mu (mv c s tl1) e3.Columns out3

def wh(c:aq)(s:al)(tables:(List Int)):Option (List bZ):=
 if s.Star then
 (mv c s tables ([]:List bZ))
 else
 (oV s ([]:List bZ))

def qJ(b:(List Int))(nx:Nat->(List Int)->Option ((List Int)×Bool))(i:Nat)(out:List Int)(k:Int):Option ((List Int)×Bool):=
  (fg b (i:Int)).bind fun e1=>
  if((e1 !=(0:Int))&&(e1 !=k))then
  (some ([],false))
  else
  ((lm out ([k])).bind fun out1=>
  nx (i+1) out1)

def jV(b:(List Int)):List Int->Nat->(List Int)->Option ((List Int)×Bool)
  |[],i,out=>
    some (out,true)
  |e::tl,i,out=>
    if(e==(0:Int))then
    ((fg b (i:Int)).bind fun e2=>
    qJ b (jV b tl) i out e2)
    else
    (qJ b (jV b tl) i out e)

def rd(a1:(List Int))(b:(List Int)):Option ((List Int)×Bool):=
 if((a1.length:Int) !=(b.length:Int))then
 (some ([],false))
 else
 (jV b a1 0 ([]:List Int))

def d9(k:lT):List bZ->Nat->Int->Int->Option (Int×Int)
  |[],i,found,many=>
    if(many==(0:Int))then
    (some ((0:Int),(222:Int)))
    else
    (if(many==(1:Int))then
    (some (found,(0:Int)))
    else
    (some ((0:Int),(223:Int))))
  |e::tl,i,found,many=>
    if(e==k.Name)then
    ((d9 k tl) (i+1) (i:Int) (IntKind.i64.wrap (many+(1:Int))))
    else
    ((d9 k tl) (i+1) found many)

def Bf(k:lT)(names:(List bZ)):Option (Int×Int):=
  if(k.Name==([]))then
  (if((decide (k.Number<(1:Int)))||(decide ((names.length:Int)<k.Number)))then
  (some ((0:Int),(222:Int)))
  else
  (some ((IntKind.i64.wrap (k.Number-(1:Int))),(0:Int))))
  else
  (d9 k names 0 (0:Int) (0:Int))

def p4:List lT->aQ->aQ->Option (aQ×Int×Int)
  |[],x1,out1=>
    some (out1,(0:Int),(0:Int))
  |e1::tl1,x1,out1=>
    (Bf e1 out1.Names).bind fun r2=>
    if(r2.2 !=(0:Int))then
    (some ((⟨[],[],[],[],(0:Int)⟩:aQ),(90:Int),r2.2))
    else
    ((lm out1.Order ([(⟨r2.1,e1.Desc⟩:zz)])).bind fun l4=>
    (p4 tl1) x1 ({out1 with Order:=l4}:aQ))

def p5(nx:Nat->aQ->aQ->Option (aQ×Int×Int))(i:Nat)(out:aQ)(ob:au)(x2:aQ)(out2:aQ):Option (aQ×Int×Int):=
 (lm out2.Selects ([ob.out])).bind fun l14=>
 nx (i+1) x2 ({out2 with Selects:=l14}:aQ)

def lU(c:aq)(nx:Nat->aQ->aQ->Option (aQ×Int×Int))(i:Nat)(e:al)(x:aQ)(out:aQ)(at1:Int)(e2:Int)(ob:au):Option (aQ×Int×Int):=
  if(e2 !=(0:Int))then
  (some ((⟨[],[],[],[],(0:Int)⟩:aQ),(IntKind.i64.wrap ((IntKind.i64.wrap ((10:Int)*(i:Int)))+at1)),e2))
  else
  ((qL c ob.out).bind fun r4=>
  if((i:Int)==(0:Int))then
  ((wh c e ob.out.Tables).bind fun r5=>
  p5 nx i out ob x ({({({({out with Names:=r5}:aQ)with Kinds:=r4}:aQ)with Selects:=out.Selects}:aQ)with Order:=out.Order}:aQ))
  else
  ((rd out.Kinds r4).bind fun r6=>
  if(!r6.2)then
  (some ((⟨[],[],[],[],(0:Int)⟩:aQ),(IntKind.i64.wrap ((IntKind.i64.wrap ((10:Int)*(i:Int)))+(6:Int))),(229:Int)))
  else
  (p5 nx i out ob x ({({({out with Kinds:=r6.1}:aQ)with Selects:=out.Selects}:aQ)with Order:=out.Order}:aQ))))

def js(c:aq)(q:aN):List al->Nat->aQ->aQ->Option (aQ×Int×Int)
  |[],i,x,out=>
    p4 q.Keys x out
  |e::tl,i,x,out=>
    (oX (⟨c,[],(⟨[],[],(⟨[]⟩:aD),(⟨[]⟩:aD),false,false,[],[],[]⟩:aS)⟩:au) e).bind fun r3=>
    if(r3.2.1==(0:Int))then
    ((jF r3.2.2 e).bind fun r7=>
    lU c (js c q tl) i e x out r7.1 r7.2.1 r7.2.2)
    else
    (lU c (js c q tl) i e x out r3.1 r3.2.1 r3.2.2)

def DU(c:aq)(q:aN):Option (aQ×Int×Int):=
  (wi c).bind fun r=>
  if(!r)then
  (some ((⟨[],[],[],[],(0:Int)⟩:aQ),(0:Int),(210:Int)))
  else
  ((wl q).bind fun r1=>
  if(!r1)then
  (some ((⟨[],[],[],[],(0:Int)⟩:aQ),(0:Int),(180:Int)))
  else
  (js c q q.Selects 0 (⟨[],[],[],[],(0:Int)⟩:aQ) ({({(⟨[],[],[],[],q.Limit⟩:aQ)with Selects:=([]:List aS)}:aQ)with Order:=([]:List zz)}:aQ)))

def jJ(r1:aq)(r3:aQ×Int×Int)(longer:aN):Option Bool:=
 (lX r1 longer).bind fun r5=>
 some ((r5.2.2==(180:Int))||((r5.2.2==r3.2.2)&&(r5.2.1==r3.2.1)))

def qN(p:aq)(y:aN)(more:al):Option Bool:=
  (wq).bind fun r=>
  if(!r)then
  (some false)
  else
  ((sS p).bind fun r1=>
  (pO y).bind fun r2=>
  (lX r1 r2).bind fun r3=>
  if(((r3.2.2==(0:Int))||(r3.2.2==(180:Int)))||(r3.2.2==(210:Int)))then
  (some true)
  else
  ((pO r2).bind fun r4=>
  if(decide (r3.2.1<(90:Int)))then
  ((pO (⟨[more],[],(0:Int)⟩:aN)).bind fun r6=>
  (fg r6.Selects (0:Int)).bind fun e=>
  (lm r4.Selects ([e])).bind fun l2=>
  jJ r1 r3 ({r4 with Selects:=l2}:aN))
  else
  ((lm r4.Keys ([(⟨[],(1:Int),false⟩:lT)])).bind fun l4=>
  jJ r1 r3 ({r4 with Keys:=l4}:aN))))

def ko(nx:(List Int)->Option (List Int)):List bl->(List Int)->Option (List Int)
 |[],out1=>
  nx out1
 |e2::tl1,out1=>
  (lm out1 ([e2.Kind])).bind fun out2=>
  (ko nx tl1) out2

def jv(c:aq):List Int->(List Int)->Option (List Int)
 |[],out=>
  some out
 |e::tl,out=>
  (fg c.Tables e).bind fun e1=>
  ko (jv c tl) e1.Columns out

def zn(c:aq)(tables:(List Int)):Option (List Int):=
 jv c tables ([]:List Int)

end Go.Proofs.YthbdkceckjihgaaGreatDoor

