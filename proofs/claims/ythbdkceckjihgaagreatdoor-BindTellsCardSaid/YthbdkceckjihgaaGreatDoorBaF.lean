/- cH of this claim: F. -/
import Derived.Test.YthbdkceckjihgaaGreatDoorBaD
import Derived.Test.YthbdkceckjihgaaGreatDoorBaV4
import Derived.Lib.MapU
set_option linter.all false
namespace Go.Proofs.YthbdkceckjihgaaGreatDoor
open Go

def pj(c:Int):Option Bool:=
 some ((decide ((97:Int)<=c))&&(decide (c<=(122:Int))))

def dF(v:dN):List dN->Nat->Option Int
 |[],i=>
  some (-1:Int)
 |e::tl,i=>
  if(v==e)then
  (some (i:Int))
  else
  ((dF v tl) (i+1))

def eY(s:(List dN))(v:dN):Option Int:=
 dF v s 0

def ez(s:(List dN))(v:dN):Option Bool:=
 (eY s v).bind fun r=>
 some (decide ((0:Int)<=r))

def pH(s:dN):Option Bool:=
 (ez Nc s).bind fun r=>
 some r

def f6(s:dN):Option dN:=if s.length<35184372088832 then some (Lib.toUpperD s)else none

def rD(c:Int):Option Bool:=
 some ((decide ((48:Int)<=c))&&(decide (c<=(57:Int))))

def kr:List (Int×Int)->Option Bool
  |[]=>
    some true
  |e::tl=>
    (rD e.2).bind fun r3=>
    (if(!r3)then((pj e.2).bind fun r4=>
    some (!r4))else some false).bind fun t2=>
    if(t2&&(e.2 !=(95:Int)))then
    (some false)
    else
    ((kr tl))

def gC(s:dN):Option Bool:=
  (if(!((s==([]))||(decide ((16:Int)<(s.length:Int)))))then((sj s (0:Int)).bind fun b=>
  (pj (IntKind.i32.wrap b)).bind fun r=>
  some (!r))else some true).bind fun t=>
  (if(!t)then((f6 s).bind fun r1=>
  (pH r1).bind fun r2=>
  some r2)else some true).bind fun t1=>
  if t1 then
  (some false)
  else
  (kr (BR s))

def bY(f:(bw->Option Bool)):List bw->Nat->Option Int
 |[],i=>
  some (-1:Int)
 |e::tl,i=>
  (f e).bind fun r=>
  if r then
  (some (i:Int))
  else
  ((bY f tl) (i+1))

def d9(s:(List bw))(f:(bw->Option Bool)):Option Int:=
 bY f s 0

def dG(of:(bw->Option dN))(name:dN)(p:bw):Option Bool:=
 (of p).bind fun r=>
 some (r==name)

def fU(l:(List bw))(of:(bw->Option dN))(name:dN):Option (Int×Bool):=
 (d9 l (dG of name)).bind fun r=>
 some ((max r (0:Int)),decide ((0:Int)<=r))

def ef(l:(List bw))(of:(bw->Option dN)):List bw->Nat->Option Bool
  |[],i=>
    some true
  |e::tl,i=>
    (of e).bind fun r=>
    (fU l of r).bind fun r1=>
    (if(!(r1.1 !=(i:Int)))then((of e).bind fun r2=>
    (gC r2).bind fun r3=>
    some (!r3))else some true).bind fun t=>
    if t then
    (some false)
    else
    ((ef l of tl) (i+1))

def iE(l:(List bw))(of:(bw->Option dN)):Option Bool:=
 ef l of l 0

def dL(c:bw):Option dN:=
 some c.Name

def ga(kind:Int):Nat->Nat->Option dN
 |0,i=>
  some ([])
 |k1+1,i=>
  (gI Lx (i:Int)).bind fun e1=>
  if(e1.kind==kind)then
  (some e1.word)
  else
  ((ga kind k1) (i+1))

def nm(kind:Int):Option dN:=
 ga kind 3 0

def dW(t:bv):List Int->Nat->Bool->Option Int
  |[],i1,ok1=>
    if(!ok1)then
    (some (211:Int))
    else
    (some (0:Int))
  |e1::tl1,i1,ok1=>
    (if((ok1&&(decide ((0:Int)<=e1)))&&(decide (e1<(t.Columns.length:Int))))then((if(!((i1:Int)==(0:Int)))then((gI t.Keys (IntKind.i64.wrap ((i1:Int)-(1:Int)))).bind fun e2=>
    some (decide (e2<e1)))else some true).bind fun t3=>
    some t3)else some false).bind fun t2=>
    (dW t tl1) (i1+1) t2

def eB(t:bv):List bw->Bool->Option Int
  |[],ok=>
    dW t t.Keys 0 ok
  |e::tl,ok=>
    (if ok then((nm e.Kind).bind fun r2=>
    some (!(r2==([]))))else some false).bind fun t4=>
    (eB t tl) t4

def iX(t:bv):Option Int:=
  (gC t.Name).bind fun r=>
  (if((r&&(decide ((1:Int)<=(t.Columns.length:Int))))&&(decide ((t.Columns.length:Int)<=(4:Int))))then((iE t.Columns dL).bind fun r1=>
  some r1)else some false).bind fun t1=>
  eB t t.Columns t1

def gR(t:bv):Option Bool:=
 (iX t).bind fun r=>
 some (r !=(0:Int))

def bF(f:(bv->Option Bool)):List bv->Nat->Option Int
 |[],i=>
  some (-1:Int)
 |e::tl,i=>
  (f e).bind fun r=>
  if r then
  (some (i:Int))
  else
  ((bF f tl) (i+1))

def cM(s:(List bv))(f:(bv->Option Bool)):Option Int:=
 bF f s 0

def d5(s:(List bv))(f:(bv->Option Bool)):Option Bool:=
 (cM s f).bind fun r=>
 some (decide ((0:Int)<=r))

def dV(of:(bv->Option dN))(name:dN)(p:bv):Option Bool:=
 (of p).bind fun r=>
 some (r==name)

def fb(l:(List bv))(of:(bv->Option dN))(name:dN):Option (Int×Bool):=
 (cM l (dV of name)).bind fun r=>
 some ((max r (0:Int)),decide ((0:Int)<=r))

def eo(l:(List bv))(of:(bv->Option dN)):List bv->Nat->Option Bool
  |[],i=>
    some true
  |e::tl,i=>
    (of e).bind fun r=>
    (fb l of r).bind fun r1=>
    (if(!(r1.1 !=(i:Int)))then((of e).bind fun r2=>
    (gC r2).bind fun r3=>
    some (!r3))else some true).bind fun t=>
    if t then
    (some false)
    else
    ((eo l of tl) (i+1))

def iW(l:(List bv))(of:(bv->Option dN)):Option Bool:=
 eo l of l 0

def dE(t:bv):Option dN:=
 some t.Name

def ks(c:aY):Option Int:=
  (if(!(decide ((4:Int)<(c.Tables.length:Int))))then((d5 c.Tables gR).bind fun r=>
  some r)else some true).bind fun t=>
  (if(!t)then((iW c.Tables dE).bind fun r1=>
  some (!r1))else some true).bind fun t1=>
  if t1 then
  (some (210:Int))
  else
  (some (0:Int))

def th(n:Int):Option Bool:=
 some ((decide ((0:Int)<=n))&&(decide (n<=(2147483647:Int))))

def dQ(f:(aJ->Option Bool)):List aJ->Nat->Option Int
 |[],i=>
  some (-1:Int)
 |e::tl,i=>
  (f e).bind fun r=>
  if r then
  (some (i:Int))
  else
  ((dQ f tl) (i+1))

def fH(s:(List aJ))(f:(aJ->Option Bool)):Option Int:=
 dQ f s 0

def fi(s:(List aJ))(f:(aJ->Option Bool)):Option Bool:=
 (fH s f).bind fun r=>
 some (decide ((0:Int)<=r))

def pp(s:dN):Option Bool:=
  (if(!(s==([])))then((gC s).bind fun r=>
  some r)else some true).bind fun t=>
  some t

def tg(s:fD):Option Bool:=
  (gC s.Table).bind fun r=>
  (if r then((pp s.As).bind fun r1=>
  some r1)else some false).bind fun t=>
  some t

def ei(f:(cD->Option Bool)):List cD->Nat->Option Int
 |[],i=>
  some (-1:Int)
 |e::tl,i=>
  (f e).bind fun r=>
  if r then
  (some (i:Int))
  else
  ((ei f tl) (i+1))

def gx(s:(List cD))(f:(cD->Option Bool)):Option Int:=
 ei f s 0

def fQ(s:(List cD))(f:(cD->Option Bool)):Option Bool:=
 (gx s f).bind fun r=>
 some (decide ((0:Int)<=r))

def zR(tag:Int):Option Int:=
  if((decide (tag<(1:Int)))||(decide ((23:Int)<tag)))then
  (some (-1:Int))
  else
  (if(decide (tag<=(3:Int)))then
  (some (0:Int))
  else
  (if(decide (tag<=(11:Int)))then
  (some (1:Int))
  else
  (some (2:Int))))

def iq(v1:dl):Option dl:=
 some v1

def nE(v2:dl):Option dl:=
 iq (dl.mk (0:Int) v2.N v2.U v2.S)

def nD(v:dl):Option dl:=
 nE (dl.mk v.Kind (0:Int) v.U v.S)

def nC(v3:dl):Option dl:=
 iq v3

def vW(v:dl):Option dl:=
  if(v.Kind==(1:Int))then
  (if((v.N !=(0:Int))&&(v.N !=(1:Int)))then
  (iq v)
  else
  (nD v))
  else
  (if(v.Kind==(2:Int))then
  (nD v)
  else
  (if(v.Kind==(0:Int))then
  (nE v)
  else
  (if(v.Kind==(3:Int))then
  (if(decide ((v.S.length:Int)<=(40:Int)))then
  (nC (dl.mk (0:Int) v.N v.U ([])))
  else
  (nC v))
  else
  (if(v.Kind==(4:Int))then
  (iq (dl.mk (0:Int) (0:Int) (0:Int) v.S))
  else
  (iq v)))))

def vX(v:dl):Option Int:=
 (vW v).bind fun r=>
 if(!decide (r=(⟨(0:Int),(0:Int),(0:Int),[]⟩:dl)))then
 (some (120:Int))
 else
 (some (0:Int))

def qD(v:dl):Option Bool:=
 (vX v).bind fun r=>
 some ((r==(0:Int))&&(v.Kind !=(4:Int)))

def nX(s:dN):Nat->Int->Option Bool
  |0,_=>none
  |n+1,x=>
    if(decide (x<(s.length:Int)))then
    ((sj s x).bind fun b=>
    (if(!(decide (b<(32:Int))))then((sj s x).bind fun b1=>
    some (decide ((126:Int)<b1)))else some true).bind fun t=>
    if t then
    (some false)
    else
    ((nX s n) (IntKind.i64.wrap (x+(1:Int)))))
    else
    (some true)

def wn(s:dN):Option Bool:=
 nX s kw (0:Int)

def yp(n:dZ):Option Bool:=
  if(n.Tag==(1:Int))then
  ((if(!((!(n.Table==([])))||(!(n.Name==([])))))then((qD n.Value).bind fun r=>
  some r)else some false).bind fun t=>
  (if(t&&(decide ((0:Int)<=n.Value.N)))then((wn n.Value.S).bind fun r1=>
  some r1)else some false).bind fun t1=>
  some t1)
  else
  (if(n.Tag==(2:Int))then
  ((if(!(!decide (n.Value=(⟨(0:Int),(0:Int),(0:Int),[]⟩:dl))))then((gC n.Name).bind fun r2=>
  some r2)else some false).bind fun t2=>
  (if t2 then((pp n.Table).bind fun r3=>
  some r3)else some false).bind fun t3=>
  some t3)
  else
  (some ((!((!(n.Table==([])))||(!(n.Name==([])))))&&(!(!decide (n.Value=(⟨(0:Int),(0:Int),(0:Int),[]⟩:dl)))))))

def qb(nx:Nat->(List iJ)->(List Int)->Option ((List iJ)×Bool))(i:Nat)(all:List iJ)(open1:List Int)(r:Int):List Int->iJ->Option ((List iJ)×Bool)
 |[],b2=>
  (mM all ([b2])).bind fun all1=>
  (cB open1 0 (IntKind.i64.wrap ((open1.length:Int)-r))).bind fun y1=>
  (mM y1 ([(i:Int)])).bind fun open2=>
  nx (i+1) all1 open2
 |e4::tl1,b2=>
  (gI all e4).bind fun e5=>
  (qb nx i all open1 r tl1) (iJ.mk ({b2 with first:=(min b2.first e5.first)}:iJ).first (max b2.depth (IntKind.i64.wrap (e5.depth+(1:Int)))))

def np:List dZ->Nat->(List iJ)->(List Int)->Option ((List iJ)×Bool)
  |[],i,all,open1=>
    (if(((open1.length:Int)==(1:Int))&&(decide ((all.length:Int)<=(300:Int))))then((gI all (IntKind.i64.wrap ((all.length:Int)-(1:Int)))).bind fun e1=>
    some (decide (e1.depth<=(20:Int))))else some false).bind fun t1=>
    some (all,t1)
  |e::tl,i,all,open1=>
    (zR e.Tag).bind fun r=>
    (if(!((decide (r<(0:Int)))||(decide ((open1.length:Int)<r))))then((yp e).bind fun r1=>
    some (!r1))else some true).bind fun t2=>
    if t2 then
    (some ([],false))
    else
    ((cB open1 (IntKind.i64.wrap ((open1.length:Int)-r)) (open1.length:Int)).bind fun y=>
    (some (q7 ([(-1:Int),(-1:Int)]) y)).bind fun cp=>
    (gI cp (0:Int)).bind fun e2=>
    (if(!(e.L !=e2))then((gI cp (1:Int)).bind fun e3=>
    some (e.R !=e3))else some true).bind fun t3=>
    if t3 then
    (some ([],false))
    else
    (qb (np tl) i all open1 r y (⟨(i:Int),(1:Int)⟩:iJ)))

def zS(t:cD):Option ((List iJ)×Bool):=
 np t.Nodes 0 ([]:List iJ) ([]:List Int)

def sE(t:cD):Option Int:=
 (zS t).bind fun r=>
 if(!r.2)then
 (some (180:Int))
 else
 (some (0:Int))

def wo(t:cD):Option Bool:=
 (sE t).bind fun r=>
 some (r !=(0:Int))

def rO(l:(List cD)):Option Bool:=
 (fQ l wo).bind fun r=>
 some (!r)

def nY(s:aJ):Nat->Nat->Bool->Option Bool
  |0,i3,ok3=>
    some ok3
  |k1+1,i3,ok3=>
    (gI ([s.Where,s.Having]) (i3:Int)).bind fun e4=>
    (if ok3 then((if(!((e4.Nodes.length:Int)==(0:Int)))then((rO ([e4])).bind fun r1=>
    some r1)else some true).bind fun t1=>
    some t1)else some false).bind fun t=>
    (nY s k1) (i3+1) t

def nZ(s:aJ):List iK->Bool->Option Bool
  |[],ok2=>
    nY s 2 0 ok2
  |e2::tl2,ok2=>
    (if ok2 then((gC e2.Name).bind fun r2=>
    some r2)else some false).bind fun t2=>
    (if t2 then((pp e2.Table).bind fun r3=>
    some r3)else some false).bind fun t3=>
    (nZ s tl2) t3

def n4(s:aJ):List kN->Bool->Option Bool
  |[],ok1=>
    nZ s s.Group ok1
  |e1::tl1,ok1=>
    (if ok1 then((rO ([e1.On])).bind fun r4=>
    some r4)else some false).bind fun t4=>
    (if t4 then((tg e1.Source).bind fun r5=>
    some r5)else some false).bind fun t5=>
    (n4 s tl1) t5

def n5(s:aJ):List er->Bool->Option Bool
  |[],ok=>
    n4 s s.Joins ok
  |e::tl,ok=>
    (if ok then((rO ([e.Tree])).bind fun r6=>
    some r6)else some false).bind fun t6=>
    (if t6 then((pp e.As).bind fun r7=>
    some r7)else some false).bind fun t7=>
    (n5 s tl) t7

def wp(s:aJ):Option Bool:=
  if((((s.Star !=((s.Items.length:Int)==(0:Int)))||(decide ((6:Int)<(s.Items.length:Int))))||(decide ((2:Int)<(s.Joins.length:Int))))||(decide ((3:Int)<(s.Group.length:Int))))then
  (some false)
  else
  ((tg s.From).bind fun r=>
  n5 s s.Items r)

def wq(s:aJ):Option Bool:=
 (wp s).bind fun r=>
 some (!r)

def qc(q:bD):List tv->Bool->Option Int
  |[],ok=>
    (if(!(!ok))then((fi q.Selects wq).bind fun r1=>
    some r1)else some true).bind fun t2=>
    if t2 then
    (some (180:Int))
    else
    (some (0:Int))
  |e::tl,ok=>
    (if ok then((if(e.Name==([]))then((th e.Number).bind fun r2=>
    some r2)else some false).bind fun t4=>
    (if(!t4)then((gC e.Name).bind fun r3=>
    some (r3&&(e.Number==(0:Int))))else some true).bind fun t5=>
    some t5)else some false).bind fun t3=>
    (qc q tl) t3

def zT(q:bD):Option Int:=
  (if(((decide ((0:Int)<(q.Selects.length:Int)))&&(decide ((q.Selects.length:Int)<=(3:Int))))&&(decide ((q.Keys.length:Int)<=(3:Int))))then((if(!(q.Limit==(-1:Int)))then((th q.Limit).bind fun r=>
  some r)else some true).bind fun t1=>
  some t1)else some false).bind fun t=>
  qc q q.Keys t

def uK(c:aY)(name:dN):Option (Int×Bool):=
 (fb c.Tables dE name).bind fun r=>
 some (r.1,r.2)

def wm(s:fD):Option dN:=
 if(s.As==([]))then
 (some s.Table)
 else
 (some s.As)

def jE(r1:dN):List bw->an->Option (Int×an)
 |[],ob=>
  some ((0:Int),ob)
 |e1::tl,ob=>
  (mM ((gK ob.alone e1.Name).getD []) ([(ob.kinds.length:Int)])).bind fun l9=>
  (some ({({ob with alone:=(gN ob.alone e1.Name l9)}:an)with behind:=(gN ob.behind ((⟨r1,e1.Name⟩:iK).Table,(⟨r1,e1.Name⟩:iK).Name) (ob.kinds.length:Int))}:an)).bind fun sc1=>
  (mM sc1.kinds ([e1.Kind])).bind fun l10=>
  (jE r1 tl) ({sc1 with kinds:=l10}:an)

def lg(s:an)(p:fD):Option (Int×an):=
  (uK s.Catalog p.Table).bind fun r=>
  (wm p).bind fun r1=>
  if(!r.2)then
  (some ((220:Int),s))
  else
  (if((gK s.called r1).getD false)then
  (some ((221:Int),s))
  else
  ((mM s.out.Tables ([r.1])).bind fun l=>
  (some ({({s with called:=(gN s.called r1 true)}:an)with out:=({({s with called:=(gN s.called r1 true)}:an).out with Tables:=l}:bP)}:an)).bind fun sc=>
  (gI sc.Catalog.Tables r.1).bind fun e=>
  jE r1 e.Columns sc))

def lW(s:an):Option (Int×an):=
 (lg ({s with at_:=(0:Int)}:an) ((({s with at_:=(0:Int)}:an).from_).From)).bind fun r=>
 some (r.1,r.2)

def ta(tag:Int):Option Int:=
  if((tag==(1:Int))||(tag==(2:Int)))then
  (some (0:Int))
  else
  (if((decide ((4:Int)<=tag))&&(decide (tag<=(7:Int))))then
  (some (1:Int))
  else
  (if((decide ((12:Int)<=tag))&&(decide (tag<=(23:Int))))then
  (some (2:Int))
  else
  (some (-1:Int))))

def wh(n:aS):Option Bool:=
  if(n.Tag==(1:Int))then
  ((qD n.Value).bind fun r=>
  some (r&&(n.Col==(0:Int))))
  else
  (if(n.Tag==(2:Int))then
  (some (((decide (n.Value=(⟨(0:Int),(0:Int),(0:Int),[]⟩:dl)))&&(decide ((0:Int)<=n.Col)))&&(decide (n.Col<(16:Int)))))
  else
  (some ((decide (n.Value=(⟨(0:Int),(0:Int),(0:Int),[]⟩:dl)))&&(n.Col==(0:Int)))))

def nU(nx:Nat->(List Int)->(List Int)->Option ((List Int)×Bool))(i:Nat)(e1:aS)(all:List Int)(open1:List Int)(r:Int):List Int->Nat->Int->(List Int)->Option ((List Int)×Bool)
  |[],i1,first,at1=>
    if(!decide (at1=([e1.L,e1.R])))then
    (some ([],false))
    else
    ((mM all ([first])).bind fun all1=>
    (cB open1 0 (IntKind.i64.wrap ((open1.length:Int)-r))).bind fun y1=>
    (mM y1 ([(i:Int)])).bind fun open2=>
    nx (i+1) all1 open2)
  |e2::tl1,i1,first,at1=>
    (gI all e2).bind fun e3=>
    (gI at1 (i1:Int)).bind fun e4=>
    (some (at1.set (i1:Int).toNat e2)).bind fun ar=>
    (nU nx i e1 all open1 r tl1) (i1+1) (min first e3) ar

def ld:List aS->Nat->(List Int)->(List Int)->Option ((List Int)×Bool)
  |[],i,all,open1=>
    some (all,(((open1.length:Int)==(1:Int))&&(decide ((all.length:Int)<=(1000:Int)))))
  |e1::tl,i,all,open1=>
    (ta e1.Tag).bind fun r=>
    (if(!((decide (r<(0:Int)))||(decide ((open1.length:Int)<r))))then((wh e1).bind fun r1=>
    some (!r1))else some true).bind fun t=>
    if t then
    (some ([],false))
    else
    ((cB open1 (IntKind.i64.wrap ((open1.length:Int)-r)) (open1.length:Int)).bind fun y=>
    nU (ld tl) i e1 all open1 r y 0 (i:Int) ([(-1:Int),(-1:Int)]))

def wg(e:ca):Option ((List Int)×Bool):=
 ld e.Nodes 0 ([]:List Int) ([]:List Int)

def nV(e:ca):Option Int:=
 (wg e).bind fun r=>
 if(!r.2)then
 (some (200:Int))
 else
 (some (0:Int))

def fm(i:Nat)(y:List Int):Nat->Nat->(List Int)->Int->Option (List Int)
  |0,i1,s1,k=>
    (cB s1 k (s1.length:Int)).bind fun y1=>
    (some (s1.take k.toNat++List.replicate y1.length (0:Int))).bind fun cl=>
    (cB cl 0 k).bind fun y2=>
    some y2
  |k2+1,i1,s1,k=>
    (F8 s1 (i:Int) y.length (i1:Int)).bind fun e3=>
    (F8 s1 (i:Int) y.length (IntKind.i64.wrap ((i1:Int)-(1:Int)))).bind fun e4=>
    if(e3 !=e4)then
    ((F8 s1 (i:Int) y.length (i1:Int)).bind fun e5=>
    (gI s1 k).bind fun e6=>
    (some (s1.set k.toNat e5)).bind fun st=>
    (fm i y k2) (i1+1) st (IntKind.i64.wrap (k+(1:Int))))
    else
    ((fm i y k2) (i1+1) s1 k)

def gM(s:(List Int)):List Int->Nat->Option (List Int)
  |[],i=>
    some s
  |e::tl,i=>
    (gI s (IntKind.i64.wrap ((i:Int)-(1:Int)))).bind fun e1=>
    if(e==e1)then
    ((cB s (i:Int) (s.length:Int)).bind fun y=>
    fm i y (y.length-1) 1 s (i:Int))
    else
    ((gM s tl) (i+1))

def kW(s:(List Int)):Option (List Int):=
 if(decide ((s.length:Int)<(2:Int)))then
 (some s)
 else
 (gM s (s.drop (1)) 1)

def nk:List aS->(List Int)->Option (List Int)
  |[],out=>
    (xq out).bind fun M3=>
    (kW M3).bind fun r1=>
    some r1
  |e1::tl,out=>
    if(e1.Tag==(2:Int))then
    ((mM out ([e1.Col])).bind fun out1=>
    (nk tl) out1)
    else
    ((nk tl) out)

def zL(e:ca):Option (List Int):=
 (nV e).bind fun r=>
 if(r !=(0:Int))then
 (some ([]:List Int))
 else
 (nk e.Nodes ([]:List Int))

def jt(s:(List Int)):Option (List Int):=
 (mM ([]:List Int) s).bind fun x=>
 some x

def qm(stack:(List Int))(k:Int):Option ((List Int)×(List Int)):=
 (cB stack (IntKind.i64.wrap ((stack.length:Int)-k)) (stack.length:Int)).bind fun y=>
 (jt y).bind fun r=>
 (cB stack 0 (IntKind.i64.wrap ((stack.length:Int)-k))).bind fun y1=>
 some (r,y1)

def lR(bad:Int)(stack:List Int):Option (Int×Int):=
  if(bad !=(0:Int))then
  (some ((0:Int),bad))
  else
  ((gI stack (0:Int)).bind fun e1=>
  some (e1,(0:Int)))

def lQ(do1:(aS->(List Int)->Option (Int×Int))):List aS->Int->(List Int)->Option (Int×Int)
  |[],bad1,stack1=>
    lR bad1 stack1
  |e2::tl,bad1,stack1=>
    (ta e2.Tag).bind fun r=>
    (qm stack1 r).bind fun r1=>
    (do1 e2 r1.1).bind fun r2=>
    if(r2.2 !=(0:Int))then
    (lR r2.2 r1.2)
    else
    ((mM r1.2 ([r2.1])).bind fun l2=>
    (lQ do1 tl) bad1 l2)

def sC(e:ca)(do1:(aS->(List Int)->Option (Int×Int))):Option (Int×Int):=
 lQ do1 e.Nodes (0:Int) ([]:List Int)

def qn(tag:Int):Option Bool:=
 some ((tag==(4:Int))||((decide ((12:Int)<=tag))&&(decide (tag<=(15:Int)))))

def jD(kinds:(List Int))(n:aS):List Int->Int->Option (Int×Int)
  |[],own=>
    if(n.Tag==(1:Int))then
    (some (n.Value.Kind,(0:Int)))
    else
    (if(n.Tag==(2:Int))then
    ((gI kinds n.Col).bind fun e1=>
    some (e1,(0:Int)))
    else
    ((qn n.Tag).bind fun r=>
    if r then
    (if((own==(-1:Int))||((own !=(0:Int))&&(own !=(2:Int))))then
    (some ((0:Int),(201:Int)))
    else
    (some ((2:Int),(0:Int))))
    else
    (if(((n.Tag==(5:Int))||(n.Tag==(22:Int)))||(n.Tag==(23:Int)))then
    (if((own==(-1:Int))||((own !=(0:Int))&&(own !=(1:Int))))then
    (some ((0:Int),(201:Int)))
    else
    (some ((1:Int),(0:Int))))
    else
    (if((own==(-1:Int))||((own !=(0:Int))&&(own !=own)))then
    (some ((0:Int),(201:Int)))
    else
    (some ((1:Int),(0:Int)))))))
  |e::tl,own=>
    if((e==(0:Int))||(e==own))then
    ((jD kinds n tl) own)
    else
    (if(own==(0:Int))then
    ((jD kinds n tl) e)
    else
    ((jD kinds n tl) (-1:Int)))

def q4(kinds:(List Int))(n:aS)(l:(List Int)):Option (Int×Int):=
 jD kinds n l (0:Int)

def pW(e:ca)(kinds:(List Int)):List Int->Option (Int×Int)
 |[]=>
  (sC e (q4 kinds)).bind fun r2=>
  some (r2.1,r2.2)
 |e2::tl1=>
  if(decide ((kinds.length:Int)<=e2))then
  (some ((0:Int),(2:Int)))
  else
  ((pW e kinds tl1))

def pX(e:ca)(kinds:(List Int)):List Int->Option (Int×Int)
 |[]=>
  (zL e).bind fun r1=>
  pW e kinds r1
 |e1::tl=>
  if((decide (e1<(0:Int)))||(decide ((3:Int)<e1)))then
  (some ((0:Int),(2:Int)))
  else
  ((pX e kinds tl))

def pn(e:ca)(kinds:(List Int)):Option (Int×Int):=
 (nV e).bind fun r=>
 if(r !=(0:Int))then
 (some ((0:Int),r))
 else
 (pX e kinds kinds)

def ky:Option (List (Int×Int)):=
 some (gN (gN (gN (gN (gN ([]:List (Int×Int)) (3:Int) (1:Int)) (8:Int) (2:Int)) (9:Int) (3:Int)) (10:Int) (4:Int)) (11:Int) (5:Int))

def pU(nx:(List aS)->Option (List aS))(out1:List aS)(n1:aS):Option (List aS):=
 (mM out1 ([n1])).bind fun out2=>
 nx out2

def pV(out:(List aS))(nx:(List aS)->Option (List aS))(out1:List aS)(n:aS):Option (List aS):=
 if(decide ((0:Int)<=n.R))then
 (pU nx out1 (aS.mk n.Tag n.L (IntKind.i64.wrap (n.R+(out.length:Int))) n.Col n.Value))
 else
 (pU nx out1 n)

def jY(out:(List aS)):List aS->(List aS)->Option (List aS)
 |[],out1=>
  some out1
 |e1::tl,out1=>
  if(decide ((0:Int)<=e1.L))then
  (pV out (jY out tl) out1 (aS.mk e1.Tag (IntKind.i64.wrap (e1.L+(out.length:Int))) e1.R e1.Col e1.Value))
  else
  (pV out (jY out tl) out1 e1)

def zJ(out:(List aS))(e:ca):Option (List aS):=
 jY out e.Nodes out

def nT(root:aS):List ca->Nat->(List aS)->(List Int)->Option ca
 |[],i,out,at1=>
  (gI at1 (0:Int)).bind fun e1=>
  (gI at1 (1:Int)).bind fun e2=>
  (mM out ([(aS.mk ({root with L:=e1}:aS).Tag ({root with L:=e1}:aS).L e2 ({root with L:=e1}:aS).Col ({root with L:=e1}:aS).Value)])).bind fun l2=>
  some (⟨l2⟩:ca)
 |e::tl,i,out,at1=>
  (zJ out e).bind fun r=>
  (gI at1 (i:Int)).bind fun e3=>
  (some (at1.set (i:Int).toNat (IntKind.i64.wrap ((r.length:Int)-(1:Int))))).bind fun ar=>
  (nT root tl) (i+1) r ar

def we(root:aS)(l:(List ca)):Option ca:=
 nT root l 0 ([]:List aS) ([(-1:Int),(-1:Int)])

def pT(root:aS)(l:(List ca)):List ca->ca->Option (ca×Int)
 |[],x=>
  (we root l).bind fun r=>
  (nV r).bind fun r1=>
  if(r1 !=(0:Int))then
  (some ((⟨[]⟩:ca),r1))
  else
  (some (r,(0:Int)))
 |e::tl,x=>
  (nV e).bind fun r2=>
  if(r2 !=(0:Int))then
  (some ((⟨[]⟩:ca),r2))
  else
  ((pT root l tl) x)

def rM(root:aS)(l:(List ca)):Option (ca×Int):=
 pT root l l (⟨[]⟩:ca)

def vD(n:aS):Option (ca×Int):=
 (rM n ([])).bind fun r=>
 some (r.1,r.2)

def lj(n:aS):Option (ca×Int):=
 (vD n).bind fun r=>
 some (r.1,r.2)

def jm(s:an)(group:Bool):Option (List Int):=
 if group then
 (some s.groups)
 else
 (some s.kinds)

def li(s:an)(n:iK):Option (Int×Int):=
  if(!(n.Table==([])))then
  (if(!((gK s.behind (n.Table,n.Name)).isSome))then
  (some ((0:Int),(222:Int)))
  else
  (some (((gK s.behind (n.Table,n.Name)).getD (0:Int)),(0:Int))))
  else
  (if((((gK s.alone n.Name).getD []).length:Int)==(0:Int))then
  (some ((0:Int),(222:Int)))
  else
  (if((((gK s.alone n.Name).getD []).length:Int)==(1:Int))then
  ((gI ((gK s.alone n.Name).getD []) (0:Int)).bind fun e=>
  some (e,(0:Int)))
  else
  (some ((0:Int),(223:Int)))))

def iu(v:Int):List Int->Nat->Option Int
 |[],i=>
  some (-1:Int)
 |e::tl,i=>
  if(v==e)then
  (some (i:Int))
  else
  ((iu v tl) (i+1))

def ms(s:(List Int))(v:Int):Option Int:=
 iu v s 0

def eE(f:(mI->Option Bool)):List mI->Nat->Option Int
 |[],i=>
  some (-1:Int)
 |e::tl,i=>
  (f e).bind fun r=>
  if r then
  (some (i:Int))
  else
  ((eE f tl) (i+1))

def gV(s:(List mI))(f:(mI->Option Bool)):Option Int:=
 eE f s 0

def eF(s2:(List aS)):List aS->Nat->Option Bool
 |[],i=>
  some true
 |e::tl,i=>
  (gI s2 (i:Int)).bind fun e1=>
  if(!decide (e=e1))then
  (some false)
  else
  ((eF s2 tl) (i+1))

def gW(s1:(List aS))(s2:(List aS)):Option Bool:=
 if((s1.length:Int) !=(s2.length:Int))then
 (some false)
 else
 (eF s2 s1 0)

def zK(a1:ca)(b:ca):Option Bool:=
 (gW a1.Nodes b.Nodes).bind fun r=>
 some r

def lX(c:mI)(p:mI):Option Bool:=
  (if(p.Tag==c.Tag)then((zK p.Arg c.Arg).bind fun r=>
  some r)else some false).bind fun t=>
  some t

def lm(i:Int)(ob:an):Option (Int×Int×an):=
 if(decide ((12:Int)<(ob.out.Aggs.length:Int)))then
 (some ((0:Int),(228:Int),ob))
 else
 (some ((IntKind.i64.wrap ((ob.out.Keys.length:Int)+i)),(0:Int),ob))

def jn(s:an)(a1:mI)(kind:Int):Option (Int×Int×an):=
  (gV s.out.Aggs (lX a1)).bind fun r=>
  if(decide (r<(0:Int)))then
  ((mM s.out.Aggs ([a1])).bind fun l7=>
  (mM s.groups ([kind])).bind fun l8=>
  lm (s.out.Aggs.length:Int) ({({s with out:=({s.out with Aggs:=l7}:bP)}:an)with groups:=l8}:an))
  else
  (lm r s)

def ra(s:an)(a1:mI):Option (Int×Int×an):=
  if(a1.Tag !=(1:Int))then
  ((pn a1.Arg s.kinds).bind fun r1=>
  if((r1.2 !=(0:Int))||(((a1.Tag==(3:Int))&&(r1.1 !=(2:Int)))&&(r1.1 !=(0:Int))))then
  (some ((0:Int),(201:Int),s))
  else
  (if((a1.Tag==(4:Int))||(a1.Tag==(5:Int)))then
  (jn s a1 r1.1)
  else
  (jn s a1 (2:Int))))
  else
  (jn s a1 (2:Int))

def Ch(tag:Int)(l:ca):Option (ca×Int):=
 (rM (⟨tag,(0:Int),(0:Int),(0:Int),(⟨(0:Int),(0:Int),(0:Int),[]⟩:dl)⟩:aS) ([l])).bind fun r=>
 some (r.1,r.2)

def Cg(tag:Int)(l:ca)(r:ca):Option (ca×Int):=
 (rM (⟨tag,(0:Int),(0:Int),(0:Int),(⟨(0:Int),(0:Int),(0:Int),[]⟩:dl)⟩:aS) ([l,r])).bind fun r1=>
 some (r1.1,r1.2)

def hG(s:an)(leaf:(aS->Option (ca×Int)))(at1:Int)(e1:Int):Option (ca×Int×an):=
  if(e1 !=(0:Int))then
  (some ((⟨[]⟩:ca),e1,s))
  else
  ((leaf (⟨(2:Int),(0:Int),(0:Int),at1,(⟨(0:Int),(0:Int),(0:Int),[]⟩:dl)⟩:aS)).bind fun r2=>
  some (r2.1,r2.2,s))

def jJ(leaf:(aS->Option (ca×Int)))(ob:an)(a1:mI):Option (ca×Int×an):=
  (ra ob a1).bind fun r4=>
  if(r4.2.1 !=(0:Int))then
  (some ((⟨[]⟩:ca),r4.2.1,r4.2.2))
  else
  ((leaf (⟨(2:Int),(0:Int),(0:Int),r4.1,(⟨(0:Int),(0:Int),(0:Int),[]⟩:dl)⟩:aS)).bind fun r5=>
  some (r5.1,r5.2,r4.2.2))

def jH(x1:ca)(e5:Int)(ob1:an):Option (ca×Int×an):=
 some (x1,e5,ob1)

def jI(over:an->Bool->Option ((List Int)×an))(group:Bool)(ob:an)(e4:Int)(x1:ca):Option (ca×Int×an):=
  if(e4==(0:Int))then
  ((over ob (group)).bind fun r7=>
  (pn x1 r7.1).bind fun r8=>
  jH x1 r8.2 r7.2)
  else
  (jH x1 e4 ob)

def jK(leaf:(aS->Option (ca×Int)))(tags:(List (Int×Int)))(over:an->Bool->Option ((List Int)×an))(group:Bool)(e:dZ)(parts:List ca)(x:ca)(ob:an):Option (ca×Int×an):=
  if((decide ((0:Int)<((gK tags e.Tag).getD (0:Int))))&&(!group))then
  (some ((⟨[]⟩:ca),(224:Int),ob))
  else
  (if(decide ((0:Int)<((gK tags e.Tag).getD (0:Int))))then
  (if(decide ((0:Int)<(parts.length:Int)))then
  ((gI parts (0:Int)).bind fun e2=>
  jJ leaf ob (mI.mk (⟨((gK tags e.Tag).getD (0:Int)),(⟨[]⟩:ca)⟩:mI).Tag e2))
  else
  (jJ leaf ob (⟨((gK tags e.Tag).getD (0:Int)),(⟨[]⟩:ca)⟩:mI)))
  else
  ((gI parts (0:Int)).bind fun e3=>
  (Ch e.Tag e3).bind fun r6=>
  if((parts.length:Int)==(2:Int))then
  ((gI parts (1:Int)).bind fun e6=>
  (Cg e.Tag e3 e6).bind fun r9=>
  jI over group ob r9.2 r9.1)
  else
  (jI over group ob r6.2 r6.1)))

def jG(self__:an->cD->(aS->Option (ca×Int))->(List (Int×Int))->(an->Bool->Option ((List Int)×an))->Int->Bool->Option (ca×Int×an))(t:cD)(leaf:(aS->Option (ca×Int)))(tags:(List (Int×Int)))(over:an->Bool->Option ((List Int)×an))(group:Bool)(e:dZ):Nat->Nat->(List ca)->ca->an->Option (ca×Int×an)
  |0,i3,parts1,x2,ob2=>
    jK leaf tags over group e parts1 x2 ob2
  |k1+1,i3,parts1,x2,ob2=>
    (gI ([e.L,e.R]) (i3:Int)).bind fun e8=>
    if(decide (e8<(0:Int)))then
    (jK leaf tags over group e parts1 x2 ob2)
    else
    ((self__ ob2 t leaf tags over e8 (group&&(((gK tags e.Tag).getD (0:Int))==(0:Int)))).bind fun r10=>
    if(r10.2.1 !=(0:Int))then
    (some (r10.1,r10.2.1,r10.2.2))
    else
    ((mM parts1 ([r10.1])).bind fun parts2=>
    (jG self__ t leaf tags over group e k1) (i3+1) parts2 x2 r10.2.2))

def im:Nat->an->cD->(aS->Option (ca×Int))->(List (Int×Int))->(an->Bool->Option ((List Int)×an))->Int->Bool->Option (ca×Int×an)
  |0,_,_,_,_,_,_,_=>none
  |fu+1,s,t,leaf,tags,over,i,group=>
    (gI t.Nodes i).bind fun e=>
    if(e.Tag==(1:Int))then
    ((leaf (⟨(1:Int),(0:Int),(0:Int),(0:Int),e.Value⟩:aS)).bind fun r=>
    some (r.1,r.2,s))
    else
    (if(e.Tag==(2:Int))then
    ((li s (⟨e.Table,e.Name⟩:iK)).bind fun r1=>
    if((r1.2==(0:Int))&&group)then
    ((ms s.out.Keys r1.1).bind fun r3=>
    if(decide (r3<(0:Int)))then
    (hG s leaf r3 (225:Int))
    else
    (hG s leaf r3 r1.2))
    else
    (hG s leaf r1.1 r1.2))
    else
    (jG (im fu) t leaf tags over group e 2 0 ([]:List ca) (⟨[]⟩:ca) s))

def oQ(s:an)(t:cD)(leaf:(aS->Option (ca×Int)))(tags:(List (Int×Int)))(over:an->Bool->Option ((List Int)×an))(i:Int)(group:Bool):Option (ca×Int×an):=
 im kw s t leaf tags over i group

def m2(s:an)(t:cD)(group:Bool):Option (ca×Int×Int×an):=
  (ky).bind fun r=>
  (oQ s t lj r (fun(mc:an) (mx:Bool)=>(jm mc mx).map fun mr=>(mr,mc)) (IntKind.i64.wrap ((t.Nodes.length:Int)-(1:Int))) group).bind fun r1=>
  if(r1.2.1 !=(0:Int))then
  (some ((⟨[]⟩:ca),(0:Int),r1.2.1,r1.2.2))
  else
  (((fun(mc:an) (mx:Bool)=>(jm mc mx).map fun mr=>(mr,mc)) r1.2.2 (group)).bind fun r2=>
  (pn r1.1 r2.1).bind fun r3=>
  some (r1.1,r3.1,r3.2,r2.2))

def kc(r:ca×Int×Int×an)(e:Int):Option (ca×Int×an):=
 some (r.1,e,r.2.2.2)

def j0(s:an)(t:cD)(group:Bool):Option (ca×Int×an):=
 (m2 s t group).bind fun r=>
 if(((r.2.2.1==(0:Int))&&(r.2.1 !=(1:Int)))&&(r.2.1 !=(0:Int)))then
 (kc r (226:Int))
 else
 (kc r r.2.2.1)

def kg:List kN->an->Option (Int×an)
  |[],ob=>
    some ((0:Int),ob)
  |e::tl,ob=>
    (lg ob e.Source).bind fun r=>
    if(r.1 !=(0:Int))then
    (some (r.1,r.2))
    else
    ((j0 r.2 e.On false).bind fun r1=>
    if(r1.2.1 !=(0:Int))then
    (some (r1.2.1,r1.2.2))
    else
    ((mM r1.2.2.out.Joins ([(⟨e.Left,r1.1⟩:o6)])).bind fun l7=>
    (kg tl) ({r1.2.2 with out:=({r1.2.2.out with Joins:=l7}:bP)}:an)))

def lT(s:an):Option (Int×an):=
 kg ((({s with at_:=(1:Int)}:an).from_).Joins) ({s with at_:=(1:Int)}:an)

def kb(e:Int)(ob:an):Option (Int×an):=
 some (e,ob)

def lS(s:an):Option (Int×an):=
  if(decide ((0:Int)<((((({s with at_:=(2:Int)}:an).from_).Where).Nodes).length:Int)))then
  ((j0 ({s with at_:=(2:Int)}:an) ((({s with at_:=(2:Int)}:an).from_).Where) false).bind fun r=>
  kb r.2.1 ({r.2.2 with out:=({r.2.2.out with Where:=r.1}:bP)}:an))
  else
  (kb (0:Int) ({s with at_:=(2:Int)}:an))

def kl:List iK->an->Option (Int×an)
  |[],ob=>
    some ((0:Int),ob)
  |e::tl,ob=>
    (li ob e).bind fun r=>
    if(r.2 !=(0:Int))then
    (some (r.2,ob))
    else
    ((mM ob.out.Keys ([r.1])).bind fun l7=>
    (gI ob.kinds r.1).bind fun e1=>
    (mM ob.groups ([e1])).bind fun l8=>
    (kl tl) ({({ob with out:=({ob.out with Keys:=l7}:bP)}:an)with groups:=l8}:an))

def lV(s:an):Option (Int×an):=
 kl ((({s with at_:=(3:Int)}:an).from_).Group) ({s with at_:=(3:Int)}:an)

def cI(f:(dZ->Option Bool)):List dZ->Nat->Option Int
 |[],i=>
  some (-1:Int)
 |e::tl,i=>
  (f e).bind fun r=>
  if r then
  (some (i:Int))
  else
  ((cI f tl) (i+1))

def eO(s:(List dZ))(f:(dZ->Option Bool)):Option Int:=
 cI f s 0

def dm(s:(List dZ))(f:(dZ->Option Bool)):Option Bool:=
 (eO s f).bind fun r=>
 some (decide ((0:Int)<=r))

def iH(tags:(List (Int×Int)))(n:dZ):Option Bool:=
 some (decide ((0:Int)<((gK tags n.Tag).getD (0:Int))))

def jL(tags:(List (Int×Int)))(p:er):Option Bool:=
 (dm p.Tree.Nodes (iH tags)).bind fun r=>
 some r

def cJ(f:(er->Option Bool)):List er->Nat->Option Int
 |[],i=>
  some (-1:Int)
 |e::tl,i=>
  (f e).bind fun r=>
  if r then
  (some (i:Int))
  else
  ((cJ f tl) (i+1))

def eP(s:(List er))(f:(er->Option Bool)):Option Int:=
 cJ f s 0

def dn(s:(List er))(f:(er->Option Bool)):Option Bool:=
 (eP s f).bind fun r=>
 some (decide ((0:Int)<=r))

def ln(s:aJ):Option Bool:=
  (ky).bind fun r=>
  (if(!((decide ((0:Int)<(s.Group.length:Int)))||(decide ((0:Int)<(s.Having.Nodes.length:Int)))))then((dn s.Items (jL r)).bind fun r1=>
  some r1)else some true).bind fun t=>
  some t

def ki:List er->an->Option (Int×an)
  |[],ob1=>
    some ((0:Int),ob1)
  |e::tl,ob1=>
    (m2 ob1 e.Tree ob1.out.Grouped).bind fun r1=>
    if(r1.2.2.1 !=(0:Int))then
    (some (r1.2.2.1,r1.2.2.2))
    else
    ((mM r1.2.2.2.out.Items ([r1.1])).bind fun l14=>
    (ki tl) ({r1.2.2.2 with out:=({r1.2.2.2.out with Items:=l14}:bP)}:an))

def kj(ob:an):Option (Int×an):=
 ki ob.from_.Items ob

def kh:List Int->Nat->an->Option (Int×an)
  |[],i4,ob2=>
    kj ob2
  |e1::tl1,i4,ob2=>
    (vD (⟨(2:Int),(0:Int),(0:Int),(i4:Int),(⟨(0:Int),(0:Int),(0:Int),[]⟩:dl)⟩:aS)).bind fun r2=>
    if(r2.2 !=(0:Int))then
    (some (r2.2,ob2))
    else
    ((mM ob2.out.Items ([r2.1])).bind fun l22=>
    (kh tl1) (i4+1) ({ob2 with out:=({ob2.out with Items:=l22}:bP)}:an))

def lU(s:an):Option (Int×an):=
  (ln (({s with at_:=(4:Int)}:an).from_)).bind fun r=>
  (some ({({s with at_:=(4:Int)}:an)with out:=({({s with at_:=(4:Int)}:an).out with Distinct:=(({s with at_:=(4:Int)}:an).from_).Distinct}:bP)}:an)).bind fun sc=>
  if(((({sc with out:=({sc.out with Grouped:=r}:bP)}:an).from_).Star)&&((({sc with out:=({sc.out with Grouped:=r}:bP)}:an).out).Grouped))then
  (some ((227:Int),({sc with out:=({sc.out with Grouped:=r}:bP)}:an)))
  else
  (if((({sc with out:=({sc.out with Grouped:=r}:bP)}:an).from_).Star)then
  (kh sc.kinds 0 ({sc with out:=({sc.out with Grouped:=r}:bP)}:an))
  else
  (kj ({sc with out:=({sc.out with Grouped:=r}:bP)}:an)))

def jF(e:Int)(ob:an):Option (Int×an):=
 some (e,ob)

def lh(s:an):Option (Int×an):=
  if(decide ((0:Int)<((((({s with at_:=(5:Int)}:an).from_).Having).Nodes).length:Int)))then
  ((j0 ({s with at_:=(5:Int)}:an) ((({s with at_:=(5:Int)}:an).from_).Having) true).bind fun r=>
  jF r.2.1 ({r.2.2 with out:=({r.2.2.out with Having:=r.1}:bP)}:an))
  else
  (jF (0:Int) ({s with at_:=(5:Int)}:an))

def ll(e:Int)(ob:an):Option (Int×an):=
 some (e,ob)

def lk:Nat->Nat->Int->an->Option (Int×an)
 |0,i,e1,ob1=>
  ll e1 ob1
 |k1+1,i,e1,ob1=>
  (gI ([(fun(mc:an) (mx:Unit)=>lW mc),(fun(mc:an) (mx:Unit)=>lT mc),(fun(mc:an) (mx:Unit)=>lS mc),(fun(mc:an) (mx:Unit)=>lV mc),(fun(mc:an) (mx:Unit)=>lU mc),(fun(mc:an) (mx:Unit)=>lh mc)]) (i:Int)).bind fun fn=>
  (fn ob1 ()).bind fun r=>
  if(r.1 !=(0:Int))then
  (ll r.1 r.2)
  else
  ((lk k1) (i+1) r.1 r.2)

def q9(s:an):Option (Int×an):=
 lk 6 0 (0:Int) s

def iF(over:(List Int)):List ca->(List Int)->Option (List Int)
 |[],out=>
  some out
 |e::tl,out=>
  (pn e over).bind fun r=>
  (mM out ([r.1])).bind fun out1=>
  (iF over tl) out1

def iG(s:an)(over:(List Int)):Option (List Int):=
 iF over s.out.Items ([]:List Int)

def mD(s:an):Option (List Int):=
 if s.out.Grouped then
 (iG s s.groups)
 else
 (iG s s.kinds)

def ke(nx:(List dN)->Option (List dN))(out1:List dN)(own:dN):Option (List dN):=
 (mM out1 ([own])).bind fun out2=>
 nx out2

def gi:List er->(List dN)->Option (List dN)
 |[],out1=>
  some out1
 |e::tl,out1=>
  (gI e.Tree.Nodes (IntKind.i64.wrap ((e.Tree.Nodes.length:Int)-(1:Int)))).bind fun e1=>
  if(e.As==([]))then
  (ke (gi tl) out1 e1.Name)
  else
  (ke (gi tl) out1 e.As)

def kf(s:an)(out:List dN):Option (List dN):=
 gi s.from_.Items out

def kd(nx1:(List dN)->Option (List dN)):List bw->(List dN)->Option (List dN)
 |[],out4=>
  nx1 out4
 |e4::tl2,out4=>
  (mM out4 ([e4.Name])).bind fun out5=>
  (kd nx1 tl2) out5

def il(s:an):List Int->(List dN)->Option (List dN)
 |[],out3=>
  kf s out3
 |e2::tl1,out3=>
  (gI s.Catalog.Tables e2).bind fun e3=>
  kd (il s tl1) e3.Columns out3

def po(s:an):Option (List dN):=
 if s.from_.Star then
 (il s s.out.Tables ([]:List dN))
 else
 (kf s ([]:List dN))

def ja:List Int->Nat->(List Int)->Option (Bool×List Int)
  |[],i,all1=>
    some (true,all1)
  |e::tl,i,all1=>
    (gI all1 (i:Int)).bind fun e1=>
    if(e1==(0:Int))then
    ((some (all1.set (i:Int).toNat e)).bind fun st=>
    (ja tl) (i+1) st)
    else
    (if((e !=(0:Int))&&(e !=e1))then
    (some (false,all1))
    else
    ((ja tl) (i+1) all1))

def p7(all:(List Int))(l1:(List Int)):Option (Bool×List Int):=
 if((all.length:Int) !=(l1.length:Int))then
 (some (false,all))
 else
 (ja l1 0 all)

def Cp(k:tv)(names:(List dN)):Option (Int×Int):=
  if(k.Name==([]))then
  (if((decide (k.Number<(1:Int)))||(decide ((names.length:Int)<k.Number)))then
  (some ((0:Int),(222:Int)))
  else
  (some ((IntKind.i64.wrap (k.Number-(1:Int))),(0:Int))))
  else
  ((eY names k.Name).bind fun r=>
  if(decide (r<(0:Int)))then
  (some ((0:Int),(222:Int)))
  else
  ((cB names (IntKind.i64.wrap (r+(1:Int))) (names.length:Int)).bind fun y=>
  (ez y k.Name).bind fun r1=>
  if r1 then
  (some ((0:Int),(223:Int)))
  else
  (some (r,(0:Int)))))

def p8:List tv->cG->cG->Option (cG×Int×Int)
  |[],x1,b3=>
    some (b3,(0:Int),(0:Int))
  |e1::tl1,x1,b3=>
    (Cp e1 b3.Names).bind fun r2=>
    if(r2.2 !=(0:Int))then
    (some ((⟨[],[],[],[],(0:Int)⟩:cG),(90:Int),r2.2))
    else
    ((mM b3.Order ([(⟨r2.1,e1.Desc⟩:yB)])).bind fun l6=>
    (p8 tl1) x1 ({b3 with Order:=l6}:cG))

def p9(nx:Nat->cG->cG->Option (cG×Int×Int))(i:Nat)(r3:Int×an)(x2:cG)(b10:cG):Option (cG×Int×Int):=
 (mM b10.Selects ([r3.2.out])).bind fun l11=>
 nx (i+1) x2 ({b10 with Selects:=l11}:cG)

def lr(c:aY)(q:bD):List aJ->Nat->cG->cG->Option (cG×Int×Int)
  |[],i,x,b2=>
    p8 q.Keys x b2
  |e::tl,i,x,b2=>
    (some (⟨c,e,(⟨[],[],(⟨[]⟩:ca),(⟨[]⟩:ca),false,false,[],[],[]⟩:bP),[],[],[],[],[],(0:Int)⟩:an)).bind fun sc=>
    (q9 sc).bind fun r3=>
    if(r3.1 !=(0:Int))then
    (some ((⟨[],[],[],[],(0:Int)⟩:cG),(IntKind.i64.wrap ((IntKind.i64.wrap ((10:Int)*(i:Int)))+r3.2.at_)),r3.1))
    else
    ((mD r3.2).bind fun r4=>
    if((i:Int)==(0:Int))then
    ((po r3.2).bind fun r5=>
    p9 (lr c q tl) i r3 x ({({({({b2 with Names:=r5}:cG)with Selects:=b2.Selects}:cG)with Kinds:=r4}:cG)with Order:=b2.Order}:cG))
    else
    ((p7 b2.Kinds r4).bind fun r6=>
    if(!r6.1)then
    (some ((⟨[],[],[],[],(0:Int)⟩:cG),(IntKind.i64.wrap ((IntKind.i64.wrap ((10:Int)*(i:Int)))+(6:Int))),(229:Int)))
    else
    (p9 (lr c q tl) i r3 x ({b2 with Kinds:=r6.2}:cG))))

def vI(c:aY)(q:bD):Option (cG×Int×Int):=
  (ks c).bind fun r=>
  if(r !=(0:Int))then
  (some ((⟨[],[],[],[],(0:Int)⟩:cG),(0:Int),r))
  else
  ((zT q).bind fun r1=>
  if(r1 !=(0:Int))then
  (some ((⟨[],[],[],[],(0:Int)⟩:cG),(0:Int),r1))
  else
  (lr c q q.Selects 0 (⟨[],[],[],[],(0:Int)⟩:cG) ({({({(⟨[],[],[],[],q.Limit⟩:cG)with Selects:=([]:List bP)}:cG)with Kinds:=([]:List Int)}:cG)with Order:=([]:List yB)}:cG)))

def wb(s:dN):Option er:=
 some (⟨(⟨[(⟨(2:Int),(-1:Int),(-1:Int),(⟨(0:Int),(0:Int),(0:Int),[]⟩:dl),[],s⟩:dZ)]⟩:cD),[]⟩:er)

def qS:Option aY:=
 some (⟨[(⟨[116],[(⟨[97],(2:Int)⟩:bw),(⟨[98],(3:Int)⟩:bw)],[]⟩:bv),(⟨[117],[(⟨[97],(2:Int)⟩:bw)],[]⟩:bv)]⟩:aY)

def qR:Option Bool:=
  (wb ([98])).bind fun r=>
  (qS).bind fun r1=>
  (vI r1 (⟨[(⟨false,false,[r],(⟨[116],[]⟩:fD),[],(⟨[]⟩:cD),(⟨[]⟩:cD),[]⟩:aJ)],[],(-1:Int)⟩:bD)).bind fun r2=>
  (qS).bind fun r3=>
  (vI r3 (bD.mk (⟨[(⟨false,false,[r],(⟨[116],[]⟩:fD),[],(⟨[]⟩:cD),(⟨[]⟩:cD),[]⟩:aJ)],[],(-1:Int)⟩:bD).Selects ([(⟨[],(2:Int),false⟩:tv)]) (⟨[(⟨false,false,[r],(⟨[116],[]⟩:fD),[],(⟨[]⟩:cD),(⟨[]⟩:cD),[]⟩:aJ)],[],(-1:Int)⟩:bD).Limit)).bind fun r4=>
  (if(((((r2.2.2==(0:Int))&&(r2.2.1==(0:Int)))&&(r4.2.2==(222:Int)))&&(r4.2.1==(90:Int)))&&((r2.1.Names.length:Int)==(1:Int)))then((gI r2.1.Names (0:Int)).bind fun e=>
  some (e==([98])))else some false).bind fun t=>
  (if t then((gI r2.1.Kinds (0:Int)).bind fun e1=>
  some (e1==(3:Int)))else some false).bind fun t1=>
  (if t1 then((gI r2.1.Selects (0:Int)).bind fun e2=>
  (gI e2.Items (0:Int)).bind fun e3=>
  (gI e3.Nodes (0:Int)).bind fun e4=>
  some (e4.Col==(1:Int)))else some false).bind fun t2=>
  some t2

def eW(l:(List Int))(most:Int):Option (List Int):=
 (cB l 0 (min (l.length:Int) most)).bind fun y=>
 (mM ([]:List Int) y).bind fun x=>
 some x

def ka(l:(List bv))(most:Int):Option (List bv):=
 (cB l 0 (min (l.length:Int) most)).bind fun y=>
 (mM ([]:List bv) y).bind fun x=>
 some x

def gZ(l:(List bw))(most:Int):Option (List bw):=
 (cB l 0 (min (l.length:Int) most)).bind fun y=>
 (mM ([]:List bw) y).bind fun x=>
 some x

def iB:List bv->Nat->aY->Option aY
 |[],i,out=>
  some out
 |e::tl,i,out=>
  (gI out.Tables (i:Int)).bind fun e1=>
  (gI out.Tables (i:Int)).bind fun e2=>
  (gZ e2.Columns (5:Int)).bind fun r1=>
  (eW e2.Keys (5:Int)).bind fun r2=>
  (some (out.Tables.set (i:Int).toNat ({e2 with Columns:=r1}:bv))).bind fun st=>
  (gI st (i:Int)).bind fun e3=>
  (some (st.set (i:Int).toNat ({e3 with Keys:=r2}:bv))).bind fun st1=>
  (iB tl) (i+1) ({out with Tables:=st1}:aY)

def oF(c:aY):Option aY:=
 (ka c.Tables (5:Int)).bind fun r=>
 iB r 0 ({(⟨r⟩:aY)with Tables:=r}:aY)

def jz(l:(List aJ))(most:Int):Option (List aJ):=
 (cB l 0 (min (l.length:Int) most)).bind fun y=>
 (mM ([]:List aJ) y).bind fun x=>
 some x

def jk(l:(List tv))(most:Int):Option (List tv):=
 (cB l 0 (min (l.length:Int) most)).bind fun y=>
 (mM ([]:List tv) y).bind fun x=>
 some x

def kD(l:(List er))(most:Int):Option (List er):=
 (cB l 0 (min (l.length:Int) most)).bind fun y=>
 (mM ([]:List er) y).bind fun x=>
 some x

def kC(l:(List kN))(most:Int):Option (List kN):=
 (cB l 0 (min (l.length:Int) most)).bind fun y=>
 (mM ([]:List kN) y).bind fun x=>
 some x

def iT(l:(List iK))(most:Int):Option (List iK):=
 (cB l 0 (min (l.length:Int) most)).bind fun y=>
 (mM ([]:List iK) y).bind fun x=>
 some x

def kB(l:(List dZ))(most:Int):Option (List dZ):=
 (cB l 0 (min (l.length:Int) most)).bind fun y=>
 (mM ([]:List dZ) y).bind fun x=>
 some x

def iC:List dZ->Nat->cD->Option cD
 |[],i,out=>
  some out
 |e::tl,i,out=>
  (gI out.Nodes (i:Int)).bind fun e1=>
  (cB e1.Value.S 0 (min (e1.Value.S.length:Int) (60:Int))).bind fun y=>
  (cB e1.Table 0 (min (e1.Table.length:Int) (40:Int))).bind fun y1=>
  (cB e1.Name 0 (min (e1.Name.length:Int) (40:Int))).bind fun y2=>
  (some (out.Nodes.set (i:Int).toNat ({e1 with Value:=({e1.Value with S:=y}:dl)}:dZ))).bind fun st=>
  (gI st (i:Int)).bind fun e2=>
  (some (st.set (i:Int).toNat ({e2 with Table:=y1}:dZ))).bind fun st1=>
  (gI st1 (i:Int)).bind fun e3=>
  (some (st1.set (i:Int).toNat ({e3 with Name:=y2}:dZ))).bind fun st2=>
  (iC tl) (i+1) ({out with Nodes:=st2}:cD)

def jy(t:cD):Option cD:=
 (kB t.Nodes (80:Int)).bind fun r=>
 iC r 0 ({(⟨r⟩:cD)with Nodes:=r}:cD)

def jU(nx:Nat->bD->Option bD)(i:Nat)(q1:bD):List kN->Nat->aJ->Option bD
 |[],i2,s1=>
  (jy s1.Where).bind fun r5=>
  (jy s1.Having).bind fun r6=>
  (some (q1.Selects.set (i:Int).toNat ({({({({s1 with Where:=r5}:aJ)with Having:=r6}:aJ)with Items:=s1.Items}:aJ)with Joins:=s1.Joins}:aJ))).bind fun st=>
  nx (i+1) ({q1 with Selects:=st}:bD)
 |e4::tl2,i2,s1=>
  (gI s1.Joins (i2:Int)).bind fun e5=>
  (gI s1.Joins (i2:Int)).bind fun e6=>
  (jy e6.On).bind fun r7=>
  (some (s1.Joins.set (i2:Int).toNat ({e6 with On:=r7}:kN))).bind fun st1=>
  (jU nx i q1 tl2) (i2+1) ({s1 with Joins:=st1}:aJ)

def jV(nx:Nat->bD->Option bD)(i:Nat)(q1:bD):List er->Nat->aJ->Option bD
 |[],i1,s=>
  jU nx i q1 s.Joins 0 s
 |e3::tl1,i1,s=>
  (gI s.Items (i1:Int)).bind fun e7=>
  (gI s.Items (i1:Int)).bind fun e8=>
  (jy e8.Tree).bind fun r8=>
  (some (s.Items.set (i1:Int).toNat ({e8 with Tree:=r8}:er))).bind fun st2=>
  (jV nx i q1 tl1) (i1+1) ({s with Items:=st2}:aJ)

def gn:List aJ->Nat->bD->Option bD
 |[],i,q1=>
  some q1
 |e::tl,i,q1=>
  (gI q1.Selects (i:Int)).bind fun e1=>
  (gI q1.Selects (i:Int)).bind fun e2=>
  (kD e2.Items (7:Int)).bind fun r2=>
  (kC e2.Joins (3:Int)).bind fun r3=>
  (iT e2.Group (4:Int)).bind fun r4=>
  jV (gn tl) i q1 r2 0 ({({({e2 with Group:=r4}:aJ)with Items:=r2}:aJ)with Joins:=r3}:aJ)

def rE(q:bD):Option bD:=
 (jz q.Selects (4:Int)).bind fun r=>
 (jk q.Keys (4:Int)).bind fun r1=>
 gn r 0 ({({q with Keys:=r1}:bD)with Selects:=r}:bD)

def mu(c:Int):Option Bool:=
 some ((decide ((97:Int)<=c))&&(decide (c<=(122:Int))))

def k6(s:dN):List dN->Option Bool
 |[]=>
  some false
 |e::tl=>
  if(e==s)then
  (some true)
  else
  ((k6 s tl))

def vi(l:(List dN))(s:dN):Option Bool:=
 k6 s l

def qO:Option (List dN):=
 some ([[83,69,76,69,67,84],[68,73,83,84,73,78,67,84],[70,82,79,77],[76,69,70,84],[74,79,73,78],[79,78],[87,72,69,82,69],[71,82,79,85,80],[66,89],[72,65,86,73,78,71],[85,78,73,79,78],[65,76,76],[79,82,68,69,82],[76,73,77,73,84],[65,83,67],[68,69,83,67],[65,83],[65,78,68],[79,82],[78,79,84],[73,83],[78,85,76,76],[84,82,85,69],[70,65,76,83,69],[67,79,85,78,84],[83,85,77],[77,73,78],[77,65,88]])

def nc(s:dN):Option Bool:=
 (qO).bind fun r=>
 (vi r s).bind fun r1=>
 some r1

def jw(nx:(List Int)->Int->Option dN)(out:List Int)(i:Int)(c1:Int):Option dN:=
 (mM out ([c1])).bind fun out1=>
 nx out1 (IntKind.i64.wrap (i+(1:Int)))

def gA(s:dN):Nat->(List Int)->Int->Option dN
  |0,_,_=>none
  |n+1,out,i=>
    if(decide (i<(s.length:Int)))then
    ((sj s i).bind fun b=>
    (mu b).bind fun r=>
    if r then
    (jw (gA s n) out i (IntKind.u8.wrap ((IntKind.u8.wrap (b-(97:Int)))+(65:Int))))
    else
    (jw (gA s n) out i b))
    else
    (some (m5 out))

def oz(s:dN):Option dN:=
 gA s kw ([]:List Int) (0:Int)

def qN(c:Int):Option Bool:=
 some ((decide ((48:Int)<=c))&&(decide (c<=(57:Int))))

def i0(s:dN):Nat->Int->Option Bool
  |0,_=>none
  |n+1,i=>
    if(decide (i<(s.length:Int)))then
    ((sj s i).bind fun b1=>
    (mu b1).bind fun r3=>
    (if(!r3)then((sj s i).bind fun b2=>
    (qN b2).bind fun r4=>
    some (!r4))else some false).bind fun t2=>
    (if t2 then((sj s i).bind fun b3=>
    some (b3 !=(95:Int)))else some false).bind fun t3=>
    if t3 then
    (some false)
    else
    ((i0 s n) (IntKind.i64.wrap (i+(1:Int)))))
    else
    (some true)

def k7(s:dN):Option Bool:=
  (if(!((decide ((s.length:Int)<(1:Int)))||(decide ((16:Int)<(s.length:Int)))))then((sj s (0:Int)).bind fun b=>
  (mu b).bind fun r=>
  some (!r))else some true).bind fun t=>
  (if(!t)then((oz s).bind fun r1=>
  (nc r1).bind fun r2=>
  some r2)else some true).bind fun t1=>
  if t1 then
  (some false)
  else
  (i0 s kw (0:Int))

def pE(kind:Int):Option dN:=
  if(kind==(1:Int))then
  (some ([98,111,111,108]))
  else
  (if(kind==(2:Int))then
  (some ([105,110,116]))
  else
  (if(kind==(3:Int))then
  (some ([116,101,120,116]))
  else
  (some ([]))))

def gh(t:bv)(nx:Int->Option Bool)(i:Int)(e:bw):Nat->Int->Option Bool
  |0,_=>none
  |n1+1,k=>
    if(decide (k<i))then
    ((gI t.Columns k).bind fun e1=>
    if(e1.Name==e.Name)then
    (some false)
    else
    ((gh t nx i e n1) (IntKind.i64.wrap (k+(1:Int)))))
    else
    (nx (IntKind.i64.wrap (i+(1:Int))))

def ge(t:bv):Nat->Int->Option Bool
  |0,_=>none
  |n2+1,i1=>
    if(decide (i1<(t.Keys.length:Int)))then
    ((gI t.Keys i1).bind fun e2=>
    (if(!((decide (e2<(0:Int)))||(decide ((t.Columns.length:Int)<=e2))))then((if(decide ((0:Int)<i1))then((gI t.Keys (IntKind.i64.wrap (i1-(1:Int)))).bind fun e3=>
    some (decide (e2<=e3)))else some false).bind fun t3=>
    some t3)else some true).bind fun t2=>
    if t2 then
    (some false)
    else
    ((ge t n2) (IntKind.i64.wrap (i1+(1:Int)))))
    else
    (some true)

def ff(t:bv):Nat->Int->Option Bool
  |0,_=>none
  |n+1,i=>
    if(decide (i<(t.Columns.length:Int)))then
    ((gI t.Columns i).bind fun e=>
    (k7 e.Name).bind fun r1=>
    (if(!(!r1))then((pE e.Kind).bind fun r2=>
    some (r2==([])))else some true).bind fun t1=>
    if t1 then
    (some false)
    else
    (gh t (ff t n) i e kw (0:Int)))
    else
    (ge t kw (0:Int))

def jS(t:bv):Option Bool:=
 (k7 t.Name).bind fun r=>
 if(((!r)||(decide ((t.Columns.length:Int)<(1:Int))))||(decide ((4:Int)<(t.Columns.length:Int))))then
 (some false)
 else
 (ff t kw (0:Int))

def jv(c:aY)(nx:Int->Option Bool)(i:Int)(e:bv):Nat->Int->Option Bool
  |0,_=>none
  |n1+1,k=>
    if(decide (k<i))then
    ((gI c.Tables k).bind fun e1=>
    if(e1.Name==e.Name)then
    (some false)
    else
    ((jv c nx i e n1) (IntKind.i64.wrap (k+(1:Int)))))
    else
    (nx (IntKind.i64.wrap (i+(1:Int))))

def iw(c:aY):Nat->Int->Option Bool
  |0,_=>none
  |n+1,i=>
    if(decide (i<(c.Tables.length:Int)))then
    ((gI c.Tables i).bind fun e=>
    (jS e).bind fun r=>
    if(!r)then
    (some false)
    else
    (jv c (iw c n) i e kw (0:Int)))
    else
    (some true)

def oy(c:aY):Option Bool:=
 if(decide ((4:Int)<(c.Tables.length:Int)))then
 (some false)
 else
 (iw c kw (0:Int))

def ju(nx:(List Int)->Option (List Int)):List bw->(List Int)->Option (List Int)
 |[],out1=>
  nx out1
 |e2::tl1,out1=>
  (mM out1 ([e2.Kind])).bind fun out2=>
  (ju nx tl1) out2

def gz(c:aY):List Int->(List Int)->Option (List Int)
 |[],out=>
  some out
 |e::tl,out=>
  (gI c.Tables e).bind fun e1=>
  ju (gz c tl) e1.Columns out

def mt(c:aY)(tables:(List Int)):Option (List Int):=
 gz c tables ([]:List Int)

def mX(tag:Int):Option Bool:=
 some ((tag==(3:Int))||((decide ((8:Int)<=tag))&&(decide (tag<=(11:Int)))))

def kZ:List dZ->Option Bool
 |[]=>
  some false
 |e::tl=>
  (mX e.Tag).bind fun r=>
  if r then
  (some true)
  else
  ((kZ tl))

def vh(t:cD):Option Bool:=
 kZ t.Nodes

def gu:List er->Bool->Option Bool
  |[],out=>
    some out
  |e::tl,out=>
    (if(!out)then((vh e.Tree).bind fun r=>
    some r)else some true).bind fun t=>
    (gu tl) t

def md(s:aJ):Option Bool:=
 gu s.Items ((decide ((0:Int)<(s.Group.length:Int)))||(decide ((0:Int)<(s.Having.Nodes.length:Int))))

def dX(f:(Int->Option Bool)):List Int->Nat->Option Int
 |[],i=>
  some (-1:Int)
 |e::tl,i=>
  (f e).bind fun r=>
  if r then
  (some (i:Int))
  else
  ((dX f tl) (i+1))

def hP(s:(List Int))(f:(Int->Option Bool)):Option Int:=
 dX f s 0

def eU(s:(List Int))(f:(Int->Option Bool)):Option Bool:=
 (hP s f).bind fun r=>
 some (decide ((0:Int)<=r))

def lp(c:aY)(t:Int):Option Bool:=
 some ((decide (t<(0:Int)))||(decide ((c.Tables.length:Int)<=t)))

def gq(nx:(List Int)->Option (List Int)):List bw->(List Int)->Option (List Int)
 |[],out1=>
  nx out1
 |e2::tl1,out1=>
  (mM out1 ([e2.Kind])).bind fun out2=>
  (gq nx tl1) out2

def eX(c:aY):List Int->(List Int)->Option (List Int)
 |[],out=>
  some out
 |e::tl,out=>
  (gI c.Tables e).bind fun e1=>
  gq (eX c tl) e1.Columns out

def nW(c:aY)(tables:(List Int)):Option (List Int):=
 eX c tables ([]:List Int)

def lq(c:aY)(tables:(List Int)):Option ((List Int)×Int):=
  (ks c).bind fun r=>
  if(r !=(0:Int))then
  (some ([],r))
  else
  ((eU tables (lp c)).bind fun r1=>
  if r1 then
  (some ([],(4:Int)))
  else
  ((nW c tables).bind fun r2=>
  some (r2,(0:Int))))

def rb(c:aY)(s:bP):Option (Int×Int×Int):=
  (lq c s.Tables).bind fun r=>
  if(r.2 !=(0:Int))then
  (some ((0:Int),(0:Int),r.2))
  else
  (if s.Grouped then
  (some ((r.1.length:Int),(IntKind.i64.wrap ((s.Keys.length:Int)+(s.Aggs.length:Int))),(0:Int)))
  else
  (some ((r.1.length:Int),(r.1.length:Int),(0:Int))))

def gD:List aJ->Option Bool
 |[]=>
  some true
 |e2::tl2=>
  (ln e2).bind fun r8=>
  (md e2).bind fun r9=>
  if(r8 !=r9)then
  (some false)
  else
  ((gD tl2))

def eb(places:(List Int))(r1:aY)(r2:bD)(r3:(List Int))(r4:(List Int)×Int)(no1:Int)(want:(List Int)):List Int->Nat->Option Bool
  |[],i1=>
    (eW places (2:Int)).bind fun r5=>
    (rb r1 (⟨r3,[],(⟨[]⟩:ca),(⟨[]⟩:ca),((((places.length:Int)).tmod (2:Int))==(1:Int)),false,r5,[],[]⟩:bP)).bind fun r6=>
    (if((((places.length:Int)).tmod (2:Int))==(1:Int))then((if(!(r6.2.2 !=no1))then((if(r6.2.2==(0:Int))then((if(!(r6.1 !=(want.length:Int)))then((eW places (2:Int)).bind fun r7=>
    some (r6.2.1 !=(r7.length:Int)))else some true).bind fun t3=>
    some t3)else some false).bind fun t2=>
    some t2)else some true).bind fun t1=>
    some t1)else some false).bind fun t=>
    if((t||(((((places.length:Int)).tmod (2:Int))==(0:Int))&&((r6.2.2 !=no1)||((r6.2.2==(0:Int))&&((r6.1 !=(want.length:Int))||(r6.2.1 !=r6.1))))))||((r6.2.2 !=(0:Int))&&((IntKind.i64.wrap (r6.1+r6.2.1)) !=(0:Int))))then
    (some false)
    else
    (gD r2.Selects)
  |e1::tl1,i1=>
    (gI r4.1 (i1:Int)).bind fun e3=>
    if(e3 !=e1)then
    (some false)
    else
    ((eb places r1 r2 r3 r4 no1 want tl1) (i1+1))

def ec(places:(List Int))(r1:aY)(r2:bD)(r3:(List Int))(r4:(List Int)×Int)(no1:Int)(want:(List Int)):Option Bool:=
 if((r4.2 !=no1)||((r4.1.length:Int) !=(want.length:Int)))then
 (some false)
 else
 (eb places r1 r2 r3 r4 no1 want want 0)

def eQ(places:(List Int))(r1:aY)(r2:bD)(r3:(List Int))(r4:(List Int)×Int):List Int->Int->Option Bool
  |[],no1=>
    if(no1==(0:Int))then
    ((mt r1 r3).bind fun r10=>
    ec places r1 r2 r3 r4 no1 r10)
    else
    (ec places r1 r2 r3 r4 no1 ([]))
  |e::tl,no1=>
    if((no1==(0:Int))&&((decide (e<(0:Int)))||(decide ((r1.Tables.length:Int)<=e))))then
    ((eQ places r1 r2 r3 r4 tl) (4:Int))
    else
    ((eQ places r1 r2 r3 r4 tl) no1)

def gE(places:(List Int))(r1:aY)(r2:bD)(r3:(List Int))(r4:(List Int)×Int)(no:Int):Option Bool:=
 eQ places r1 r2 r3 r4 r3 no

def mY(p:aY)(places:(List Int))(y:bD):Option Bool:=
  (qR).bind fun r=>
  if(!r)then
  (some false)
  else
  ((oF p).bind fun r1=>
  (rE y).bind fun r2=>
  (eW places (4:Int)).bind fun r3=>
  (lq r1 r3).bind fun r4=>
  (oy r1).bind fun r11=>
  if(!r11)then
  (gE places r1 r2 r3 r4 (210:Int))
  else
  (gE places r1 r2 r3 r4 (0:Int)))


end Go.Proofs.YthbdkceckjihgaaGreatDoor

