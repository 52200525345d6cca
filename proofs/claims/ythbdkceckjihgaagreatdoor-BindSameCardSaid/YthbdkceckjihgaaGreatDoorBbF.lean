/- du of this claim: F. -/
import Derived.Test.YthbdkceckjihgaaGreatDoorBbD
import Derived.Test.YthbdkceckjihgaaGreatDoorBbV4
import Derived.Lib.MapU
set_option linter.all false
namespace Go.Proofs.YthbdkceckjihgaaGreatDoor
open Go

def xl(c:Int):Option Bool:=
 some ((decide ((97:Int)<=c))&&(decide (c<=(122:Int))))

def ec(v:cS):List cS->Nat->Option Int
 |[],i=>
  some (-1:Int)
 |e::tl,i=>
  if(v==e)then
  (some (i:Int))
  else
  ((ec v tl) (i+1))

def fC(s:(List cS))(v:cS):Option Int:=
 ec v s 0

def fM(s:(List cS))(v:cS):Option Bool:=
 (fC s v).bind fun r=>
 some (decide ((0:Int)<=r))

def xX(s:cS):Option Bool:=
 (fM Yi s).bind fun r=>
 some r

def kX(s:cS):Option cS:=if s.length<35184372088832 then some (Lib.toUpperD s)else none

def Aj(c:Int):Option Bool:=
 some ((decide ((48:Int)<=c))&&(decide (c<=(57:Int))))

def qx:List (Int×Int)->Option Bool
  |[]=>
    some true
  |e::tl=>
    (Aj e.2).bind fun r3=>
    (if(!r3)then((xl e.2).bind fun r4=>
    some (!r4))else some false).bind fun t2=>
    if(t2&&(e.2 !=(95:Int)))then
    (some false)
    else
    ((qx tl))

def ma(s:cS):Option Bool:=
  (if(!((s==([]))||(decide ((16:Int)<(s.length:Int)))))then((uy s (0:Int)).bind fun b=>
  (xl (IntKind.i32.wrap b)).bind fun r=>
  some (!r))else some true).bind fun t=>
  (if(!t)then((kX s).bind fun r1=>
  (xX r1).bind fun r2=>
  some r2)else some true).bind fun t1=>
  if t1 then
  (some false)
  else
  (qx (Li s))

def dn(f:(cd->Option Bool)):List cd->Nat->Option Int
 |[],i=>
  some (-1:Int)
 |e::tl,i=>
  (f e).bind fun r=>
  if r then
  (some (i:Int))
  else
  ((dn f tl) (i+1))

def gM(s:(List cd))(f:(cd->Option Bool)):Option Int:=
 dn f s 0

def fS(of:(cd->Option cS))(name:cS)(p:cd):Option Bool:=
 (of p).bind fun r=>
 some (r==name)

def kS(l:(List cd))(of:(cd->Option cS))(name:cS):Option (Int×Bool):=
 (gM l (fS of name)).bind fun r=>
 some ((max r (0:Int)),decide ((0:Int)<=r))

def gS(l:(List cd))(of:(cd->Option cS)):List cd->Nat->Option Bool
  |[],i=>
    some true
  |e::tl,i=>
    (of e).bind fun r=>
    (kS l of r).bind fun r1=>
    (if(!(r1.1 !=(i:Int)))then((of e).bind fun r2=>
    (ma r2).bind fun r3=>
    some (!r3))else some true).bind fun t=>
    if t then
    (some false)
    else
    ((gS l of tl) (i+1))

def nr(l:(List cd))(of:(cd->Option cS)):Option Bool:=
 gS l of l 0

def fZ(c:cd):Option cS:=
 some c.Name

def ld(kind:Int):Nat->Nat->Option cS
 |0,i=>
  some ([])
 |k1+1,i=>
  (fB Yj (i:Int)).bind fun e1=>
  if(e1.kind==kind)then
  (some e1.word)
  else
  ((ld kind k1) (i+1))

def va(kind:Int):Option cS:=
 ld kind 3 0

def gB(t:ce):List Int->Nat->Bool->Option Int
  |[],i1,ok1=>
    if(!ok1)then
    (some (211:Int))
    else
    (some (0:Int))
  |e1::tl1,i1,ok1=>
    (if((ok1&&(decide ((0:Int)<=e1)))&&(decide (e1<(t.Columns.length:Int))))then((if(!((i1:Int)==(0:Int)))then((fB t.Keys (IntKind.i64.wrap ((i1:Int)-(1:Int)))).bind fun e2=>
    some (decide (e2<e1)))else some true).bind fun t3=>
    some t3)else some false).bind fun t2=>
    (gB t tl1) (i1+1) t2

def iB(t:ce):List cd->Bool->Option Int
  |[],ok=>
    gB t t.Keys 0 ok
  |e::tl,ok=>
    (if ok then((va e.Kind).bind fun r2=>
    some (!(r2==([]))))else some false).bind fun t4=>
    (iB t tl) t4

def n6(t:ce):Option Int:=
  (ma t.Name).bind fun r=>
  (if((r&&(decide ((1:Int)<=(t.Columns.length:Int))))&&(decide ((t.Columns.length:Int)<=(4:Int))))then((nr t.Columns fZ).bind fun r1=>
  some r1)else some false).bind fun t1=>
  iB t t.Columns t1

def mu(t:ce):Option Bool:=
 (n6 t).bind fun r=>
 some (r !=(0:Int))

def ca(f:(ce->Option Bool)):List ce->Nat->Option Int
 |[],i=>
  some (-1:Int)
 |e::tl,i=>
  (f e).bind fun r=>
  if r then
  (some (i:Int))
  else
  ((ca f tl) (i+1))

def dK(s:(List ce))(f:(ce->Option Bool)):Option Int:=
 ca f s 0

def gF(s:(List ce))(f:(ce->Option Bool)):Option Bool:=
 (dK s f).bind fun r=>
 some (decide ((0:Int)<=r))

def eC(of:(ce->Option cS))(name:cS)(p:ce):Option Bool:=
 (of p).bind fun r=>
 some (r==name)

def hY(l:(List ce))(of:(ce->Option cS))(name:cS):Option (Int×Bool):=
 (dK l (eC of name)).bind fun r=>
 some ((max r (0:Int)),decide ((0:Int)<=r))

def ik(l:(List ce))(of:(ce->Option cS)):List ce->Nat->Option Bool
  |[],i=>
    some true
  |e::tl,i=>
    (of e).bind fun r=>
    (hY l of r).bind fun r1=>
    (if(!(r1.1 !=(i:Int)))then((of e).bind fun r2=>
    (ma r2).bind fun r3=>
    some (!r3))else some true).bind fun t=>
    if t then
    (some false)
    else
    ((ik l of tl) (i+1))

def n5(l:(List ce))(of:(ce->Option cS)):Option Bool:=
 ik l of l 0

def eH(t:ce):Option cS:=
 some t.Name

def tF(c:aR):Option Int:=
  (if(!(decide ((4:Int)<(c.Tables.length:Int))))then((gF c.Tables mu).bind fun r=>
  some r)else some true).bind fun t=>
  (if(!t)then((n5 c.Tables eH).bind fun r1=>
  some (!r1))else some true).bind fun t1=>
  if t1 then
  (some (210:Int))
  else
  (some (0:Int))

def vL(n:Int):Option Bool:=
 some ((decide ((0:Int)<=n))&&(decide (n<=(2147483647:Int))))

def dO(f:(aQ->Option Bool)):List aQ->Nat->Option Int
 |[],i=>
  some (-1:Int)
 |e::tl,i=>
  (f e).bind fun r=>
  if r then
  (some (i:Int))
  else
  ((dO f tl) (i+1))

def gL(s:(List aQ))(f:(aQ->Option Bool)):Option Int:=
 dO f s 0

def eG(s:(List aQ))(f:(aQ->Option Bool)):Option Bool:=
 (gL s f).bind fun r=>
 some (decide ((0:Int)<=r))

def s7(s:cS):Option Bool:=
  (if(!(s==([])))then((ma s).bind fun r=>
  some r)else some true).bind fun t=>
  some t

def vK(s:ef):Option Bool:=
  (ma s.Table).bind fun r=>
  (if r then((s7 s.As).bind fun r1=>
  some r1)else some false).bind fun t=>
  some t

def fi(f:(dj->Option Bool)):List dj->Nat->Option Int
 |[],i=>
  some (-1:Int)
 |e::tl,i=>
  (f e).bind fun r=>
  if r then
  (some (i:Int))
  else
  ((fi f tl) (i+1))

def iL(s:(List dj))(f:(dj->Option Bool)):Option Int:=
 fi f s 0

def gX(s:(List dj))(f:(dj->Option Bool)):Option Bool:=
 (iL s f).bind fun r=>
 some (decide ((0:Int)<=r))

def Ay(tag:Int):Option Int:=
  if((decide (tag<(1:Int)))||(decide ((23:Int)<tag)))then
  (some (-1:Int))
  else
  (if(decide (tag<=(3:Int)))then
  (some (0:Int))
  else
  (if(decide (tag<=(11:Int)))then
  (some (1:Int))
  else
  (some (2:Int))))

def lQ(v1:cJ):Option cJ:=
 some v1

def ry(v2:cJ):Option cJ:=
 lQ (cJ.mk (0:Int) v2.N v2.U v2.S)

def rx(v:cJ):Option cJ:=
 ry (cJ.mk v.Kind (0:Int) v.U v.S)

def ru(v3:cJ):Option cJ:=
 lQ v3

def ze(v:cJ):Option cJ:=
  if(v.Kind==(1:Int))then
  (if((v.N !=(0:Int))&&(v.N !=(1:Int)))then
  (lQ v)
  else
  (rx v))
  else
  (if(v.Kind==(2:Int))then
  (rx v)
  else
  (if(v.Kind==(0:Int))then
  (ry v)
  else
  (if(v.Kind==(3:Int))then
  (if(decide ((v.S.length:Int)<=(40:Int)))then
  (ru (cJ.mk (0:Int) v.N v.U ([])))
  else
  (ru v))
  else
  (if(v.Kind==(4:Int))then
  (lQ (cJ.mk (0:Int) (0:Int) (0:Int) v.S))
  else
  (lQ v)))))

def vZ(v:cJ):Option Int:=
 (ze v).bind fun r=>
 if(!decide (r=(⟨(0:Int),(0:Int),(0:Int),[]⟩:cJ)))then
 (some (120:Int))
 else
 (some (0:Int))

def tP(v:cJ):Option Bool:=
 (vZ v).bind fun r=>
 some ((r==(0:Int))&&(v.Kind !=(4:Int)))

def pA(s:cS):Nat->Int->Option Bool
  |0,_=>none
  |n+1,x=>
    if(decide (x<(s.length:Int)))then
    ((uy s x).bind fun b=>
    (if(!(decide (b<(32:Int))))then((uy s x).bind fun b1=>
    some (decide ((126:Int)<b1)))else some true).bind fun t=>
    if t then
    (some false)
    else
    ((pA s n) (IntKind.i64.wrap (x+(1:Int)))))
    else
    (some true)

def zR(s:cS):Option Bool:=
 pA s gi (0:Int)

def yw(n:dl):Option Bool:=
  if(n.Tag==(1:Int))then
  ((if(!((!(n.Table==([])))||(!(n.Name==([])))))then((tP n.Value).bind fun r=>
  some r)else some false).bind fun t=>
  (if(t&&(decide ((0:Int)<=n.Value.N)))then((zR n.Value.S).bind fun r1=>
  some r1)else some false).bind fun t1=>
  some t1)
  else
  (if(n.Tag==(2:Int))then
  ((if(!(!decide (n.Value=(⟨(0:Int),(0:Int),(0:Int),[]⟩:cJ))))then((ma n.Name).bind fun r2=>
  some r2)else some false).bind fun t2=>
  (if t2 then((s7 n.Table).bind fun r3=>
  some r3)else some false).bind fun t3=>
  some t3)
  else
  (some ((!((!(n.Table==([])))||(!(n.Name==([])))))&&(!(!decide (n.Value=(⟨(0:Int),(0:Int),(0:Int),[]⟩:cJ)))))))

def p3(nx:Nat->(List mf)->(List Int)->Option ((List mf)×Bool))(i:Nat)(all:List mf)(open1:List Int)(r:Int):List Int->mf->Option ((List mf)×Bool)
 |[],b2=>
  (oI all ([b2])).bind fun all1=>
  (dN open1 0 (IntKind.i64.wrap ((open1.length:Int)-r))).bind fun y1=>
  (oI y1 ([(i:Int)])).bind fun open2=>
  nx (i+1) all1 open2
 |e4::tl1,b2=>
  (fB all e4).bind fun e5=>
  (p3 nx i all open1 r tl1) (mf.mk ({b2 with first:=(min b2.first e5.first)}:mf).first (max b2.depth (IntKind.i64.wrap (e5.depth+(1:Int)))))

def n8:List dl->Nat->(List mf)->(List Int)->Option ((List mf)×Bool)
  |[],i,all,open1=>
    (if(((open1.length:Int)==(1:Int))&&(decide ((all.length:Int)<=(300:Int))))then((fB all (IntKind.i64.wrap ((all.length:Int)-(1:Int)))).bind fun e1=>
    some (decide (e1.depth<=(20:Int))))else some false).bind fun t1=>
    some (all,t1)
  |e::tl,i,all,open1=>
    (Ay e.Tag).bind fun r=>
    (if(!((decide (r<(0:Int)))||(decide ((open1.length:Int)<r))))then((yw e).bind fun r1=>
    some (!r1))else some true).bind fun t2=>
    if t2 then
    (some ([],false))
    else
    ((dN open1 (IntKind.i64.wrap ((open1.length:Int)-r)) (open1.length:Int)).bind fun y=>
    (some (wF ([(-1:Int),(-1:Int)]) y)).bind fun cp=>
    (fB cp (0:Int)).bind fun e2=>
    (if(!(e.L !=e2))then((fB cp (1:Int)).bind fun e3=>
    some (e.R !=e3))else some true).bind fun t3=>
    if t3 then
    (some ([],false))
    else
    (p3 (n8 tl) i all open1 r y (⟨(i:Int),(1:Int)⟩:mf)))

def Ep(t:dj):Option ((List mf)×Bool):=
 n8 t.Nodes 0 ([]:List mf) ([]:List Int)

def tG(t:dj):Option Int:=
 (Ep t).bind fun r=>
 if(!r.2)then
 (some (180:Int))
 else
 (some (0:Int))

def wH(t:dj):Option Bool:=
 (tG t).bind fun r=>
 some (r !=(0:Int))

def vh(l:(List dj)):Option Bool:=
 (gX l wH).bind fun r=>
 some (!r)

def pB(s:aQ):Nat->Nat->Bool->Option Bool
  |0,i3,ok3=>
    some ok3
  |k1+1,i3,ok3=>
    (fB ([s.Where,s.Having]) (i3:Int)).bind fun e4=>
    (if ok3 then((if(!((e4.Nodes.length:Int)==(0:Int)))then((vh ([e4])).bind fun r1=>
    some r1)else some true).bind fun t1=>
    some t1)else some false).bind fun t=>
    (pB s k1) (i3+1) t

def ny(s:aQ):List km->Bool->Option Bool
  |[],ok2=>
    pB s 2 0 ok2
  |e2::tl2,ok2=>
    (if ok2 then((ma e2.Name).bind fun r2=>
    some r2)else some false).bind fun t2=>
    (if t2 then((s7 e2.Table).bind fun r3=>
    some r3)else some false).bind fun t3=>
    (ny s tl2) t3

def nz(s:aQ):List nJ->Bool->Option Bool
  |[],ok1=>
    ny s s.Group ok1
  |e1::tl1,ok1=>
    (if ok1 then((vh ([e1.On])).bind fun r4=>
    some r4)else some false).bind fun t4=>
    (if t4 then((vK e1.Source).bind fun r5=>
    some r5)else some false).bind fun t5=>
    (nz s tl1) t5

def nA(s:aQ):List fQ->Bool->Option Bool
  |[],ok=>
    nz s s.Joins ok
  |e::tl,ok=>
    (if ok then((vh ([e.Tree])).bind fun r6=>
    some r6)else some false).bind fun t6=>
    (if t6 then((s7 e.As).bind fun r7=>
    some r7)else some false).bind fun t7=>
    (nA s tl) t7

def wI(s:aQ):Option Bool:=
  if((((s.Star !=((s.Items.length:Int)==(0:Int)))||(decide ((6:Int)<(s.Items.length:Int))))||(decide ((2:Int)<(s.Joins.length:Int))))||(decide ((3:Int)<(s.Group.length:Int))))then
  (some false)
  else
  ((vK s.From).bind fun r=>
  nA s s.Items r)

def ub(s:aQ):Option Bool:=
 (wI s).bind fun r=>
 some (!r)

def p4(q:cu):List tf->Bool->Option Int
  |[],ok=>
    (if(!(!ok))then((eG q.Selects ub).bind fun r1=>
    some r1)else some true).bind fun t2=>
    if t2 then
    (some (180:Int))
    else
    (some (0:Int))
  |e::tl,ok=>
    (if ok then((if(e.Name==([]))then((vL e.Number).bind fun r2=>
    some r2)else some false).bind fun t4=>
    (if(!t4)then((ma e.Name).bind fun r3=>
    some (r3&&(e.Number==(0:Int))))else some true).bind fun t5=>
    some t5)else some false).bind fun t3=>
    (p4 q tl) t3

def Az(q:cu):Option Int:=
  (if(((decide ((0:Int)<(q.Selects.length:Int)))&&(decide ((q.Selects.length:Int)<=(3:Int))))&&(decide ((q.Keys.length:Int)<=(3:Int))))then((if(!(q.Limit==(-1:Int)))then((vL q.Limit).bind fun r=>
  some r)else some true).bind fun t1=>
  some t1)else some false).bind fun t=>
  p4 q q.Keys t

def pZ(c:aR)(name:cS):Option (Int×Bool):=
 (hY c.Tables eH name).bind fun r=>
 some (r.1,r.2)

def wG(s:ef):Option cS:=
 if(s.As==([]))then
 (some s.Table)
 else
 (some s.As)

def gT(r1:cS):List cd->am->Option (Int×am)
 |[],ob=>
  some ((0:Int),ob)
 |e1::tl,ob=>
  (oI ((ij ob.alone e1.Name).getD []) ([(ob.kinds.length:Int)])).bind fun l9=>
  (some ({({ob with alone:=(kq ob.alone e1.Name l9)}:am)with behind:=(kq ob.behind ((⟨r1,e1.Name⟩:km).Table,(⟨r1,e1.Name⟩:km).Name) (ob.kinds.length:Int))}:am)).bind fun sc1=>
  (oI sc1.kinds ([e1.Kind])).bind fun l10=>
  (gT r1 tl) ({sc1 with kinds:=l10}:am)

def iy(s:am)(p:ef):Option (Int×am):=
  (pZ s.Catalog p.Table).bind fun r=>
  (wG p).bind fun r1=>
  if(!r.2)then
  (some ((220:Int),s))
  else
  (if((ij s.called r1).getD false)then
  (some ((221:Int),s))
  else
  ((oI s.out.Tables ([r.1])).bind fun l=>
  (some ({({s with called:=(kq s.called r1 true)}:am)with out:=({({s with called:=(kq s.called r1 true)}:am).out with Tables:=l}:aL)}:am)).bind fun sc=>
  (fB sc.Catalog.Tables r.1).bind fun e=>
  gT r1 e.Columns sc))

def jd(s:am):Option (Int×am):=
 (iy ({s with at_:=(0:Int)}:am) ((({s with at_:=(0:Int)}:am).from_).From)).bind fun r=>
 some (r.1,r.2)

def sY(tag:Int):Option Int:=
  if((tag==(1:Int))||(tag==(2:Int)))then
  (some (0:Int))
  else
  (if((decide ((4:Int)<=tag))&&(decide (tag<=(7:Int))))then
  (some (1:Int))
  else
  (if((decide ((12:Int)<=tag))&&(decide (tag<=(23:Int))))then
  (some (2:Int))
  else
  (some (-1:Int))))

def wC(n:aC):Option Bool:=
  if(n.Tag==(1:Int))then
  ((tP n.Value).bind fun r=>
  some (r&&(n.Col==(0:Int))))
  else
  (if(n.Tag==(2:Int))then
  (some (((decide (n.Value=(⟨(0:Int),(0:Int),(0:Int),[]⟩:cJ)))&&(decide ((0:Int)<=n.Col)))&&(decide (n.Col<(16:Int)))))
  else
  (some ((decide (n.Value=(⟨(0:Int),(0:Int),(0:Int),[]⟩:cJ)))&&(n.Col==(0:Int)))))

def np(nx:Nat->(List Int)->(List Int)->Option ((List Int)×Bool))(i:Nat)(e1:aC)(all:List Int)(open1:List Int)(r:Int):List Int->Nat->Int->(List Int)->Option ((List Int)×Bool)
  |[],i1,first,at1=>
    if(!decide (at1=([e1.L,e1.R])))then
    (some ([],false))
    else
    ((oI all ([first])).bind fun all1=>
    (dN open1 0 (IntKind.i64.wrap ((open1.length:Int)-r))).bind fun y1=>
    (oI y1 ([(i:Int)])).bind fun open2=>
    nx (i+1) all1 open2)
  |e2::tl1,i1,first,at1=>
    (fB all e2).bind fun e3=>
    (fB at1 (i1:Int)).bind fun e4=>
    (some (at1.set (i1:Int).toNat e2)).bind fun ar=>
    (np nx i e1 all open1 r tl1) (i1+1) (min first e3) ar

def md:List aC->Nat->(List Int)->(List Int)->Option ((List Int)×Bool)
  |[],i,all,open1=>
    some (all,(((open1.length:Int)==(1:Int))&&(decide ((all.length:Int)<=(1000:Int)))))
  |e1::tl,i,all,open1=>
    (sY e1.Tag).bind fun r=>
    (if(!((decide (r<(0:Int)))||(decide ((open1.length:Int)<r))))then((wC e1).bind fun r1=>
    some (!r1))else some true).bind fun t=>
    if t then
    (some ([],false))
    else
    ((dN open1 (IntKind.i64.wrap ((open1.length:Int)-r)) (open1.length:Int)).bind fun y=>
    np (md tl) i e1 all open1 r y 0 (i:Int) ([(-1:Int),(-1:Int)]))

def zG(e:aW):Option ((List Int)×Bool):=
 md e.Nodes 0 ([]:List Int) ([]:List Int)

def qY(e:aW):Option Int:=
 (zG e).bind fun r=>
 if(!r.2)then
 (some (200:Int))
 else
 (some (0:Int))

def eZ(i:Nat)(y:List Int):Nat->Nat->(List Int)->Int->Option (List Int)
  |0,i1,s1,k=>
    (dN s1 k (s1.length:Int)).bind fun y1=>
    (some (s1.take k.toNat++List.replicate y1.length (0:Int))).bind fun cl=>
    (dN cl 0 k).bind fun y2=>
    some y2
  |k2+1,i1,s1,k=>
    (Ia s1 (i:Int) y.length (i1:Int)).bind fun e3=>
    (Ia s1 (i:Int) y.length (IntKind.i64.wrap ((i1:Int)-(1:Int)))).bind fun e4=>
    if(e3 !=e4)then
    ((Ia s1 (i:Int) y.length (i1:Int)).bind fun e5=>
    (fB s1 k).bind fun e6=>
    (some (s1.set k.toNat e5)).bind fun st=>
    (eZ i y k2) (i1+1) st (IntKind.i64.wrap (k+(1:Int))))
    else
    ((eZ i y k2) (i1+1) s1 k)

def fR(s:(List Int)):List Int->Nat->Option (List Int)
  |[],i=>
    some s
  |e::tl,i=>
    (fB s (IntKind.i64.wrap ((i:Int)-(1:Int)))).bind fun e1=>
    if(e==e1)then
    ((dN s (i:Int) (s.length:Int)).bind fun y=>
    eZ i y (y.length-1) 1 s (i:Int))
    else
    ((fR s tl) (i+1))

def lw(s:(List Int)):Option (List Int):=
 if(decide ((s.length:Int)<(2:Int)))then
 (some s)
 else
 (fR s (s.drop (1)) 1)

def n4:List aC->(List Int)->Option (List Int)
  |[],out=>
    (Gh out).bind fun ZY=>
    (lw ZY).bind fun r1=>
    some r1
  |e1::tl,out=>
    if(e1.Tag==(2:Int))then
    ((oI out ([e1.Col])).bind fun out1=>
    (n4 tl) out1)
    else
    ((n4 tl) out)

def xw(e:aW):Option (List Int):=
 (qY e).bind fun r=>
 if(r !=(0:Int))then
 (some ([]:List Int))
 else
 (n4 e.Nodes ([]:List Int))

def mD(s:(List Int)):Option (List Int):=
 (oI ([]:List Int) s).bind fun x=>
 some x

def qH(stack:(List Int))(k:Int):Option ((List Int)×(List Int)):=
 (dN stack (IntKind.i64.wrap ((stack.length:Int)-k)) (stack.length:Int)).bind fun y=>
 (mD y).bind fun r=>
 (dN stack 0 (IntKind.i64.wrap ((stack.length:Int)-k))).bind fun y1=>
 some (r,y1)

def nl(bad:Int)(stack:List Int):Option (Int×Int):=
  if(bad !=(0:Int))then
  (some ((0:Int),bad))
  else
  ((fB stack (0:Int)).bind fun e1=>
  some (e1,(0:Int)))

def jc(do1:(aC->(List Int)->Option (Int×Int))):List aC->Int->(List Int)->Option (Int×Int)
  |[],bad1,stack1=>
    nl bad1 stack1
  |e2::tl,bad1,stack1=>
    (sY e2.Tag).bind fun r=>
    (qH stack1 r).bind fun r1=>
    (do1 e2 r1.1).bind fun r2=>
    if(r2.2 !=(0:Int))then
    (nl r2.2 r1.2)
    else
    ((oI r1.2 ([r2.1])).bind fun l2=>
    (jc do1 tl) bad1 l2)

def qz(e:aW)(do1:(aC->(List Int)->Option (Int×Int))):Option (Int×Int):=
 jc do1 e.Nodes (0:Int) ([]:List Int)

def yO(tag:Int):Option Bool:=
 some ((tag==(4:Int))||((decide ((12:Int)<=tag))&&(decide (tag<=(15:Int)))))

def nq(kinds:(List Int))(n:aC):List Int->Int->Option (Int×Int)
  |[],own=>
    if(n.Tag==(1:Int))then
    (some (n.Value.Kind,(0:Int)))
    else
    (if(n.Tag==(2:Int))then
    ((fB kinds n.Col).bind fun e1=>
    some (e1,(0:Int)))
    else
    ((yO n.Tag).bind fun r=>
    if r then
    (if((own==(-1:Int))||((own !=(0:Int))&&(own !=(2:Int))))then
    (some ((0:Int),(201:Int)))
    else
    (some ((2:Int),(0:Int))))
    else
    (if(((n.Tag==(5:Int))||(n.Tag==(22:Int)))||(n.Tag==(23:Int)))then
    (if((own==(-1:Int))||((own !=(0:Int))&&(own !=(1:Int))))then
    (some ((0:Int),(201:Int)))
    else
    (some ((1:Int),(0:Int))))
    else
    (if((own==(-1:Int))||((own !=(0:Int))&&(own !=own)))then
    (some ((0:Int),(201:Int)))
    else
    (some ((1:Int),(0:Int)))))))
  |e::tl,own=>
    if((e==(0:Int))||(e==own))then
    ((nq kinds n tl) own)
    else
    (if(own==(0:Int))then
    ((nq kinds n tl) e)
    else
    ((nq kinds n tl) (-1:Int)))

def kI(kinds:(List Int))(n:aC)(l:(List Int)):Option (Int×Int):=
 nq kinds n l (0:Int)

def nZ(e:aW)(kinds:(List Int)):List Int->Option (Int×Int)
 |[]=>
  (qz e (kI kinds)).bind fun r2=>
  some (r2.1,r2.2)
 |e2::tl1=>
  if(decide ((kinds.length:Int)<=e2))then
  (some ((0:Int),(2:Int)))
  else
  ((nZ e kinds tl1))

def r0(e:aW)(kinds:(List Int)):List Int->Option (Int×Int)
 |[]=>
  (xw e).bind fun r1=>
  nZ e kinds r1
 |e1::tl=>
  if((decide (e1<(0:Int)))||(decide ((3:Int)<e1)))then
  (some ((0:Int),(2:Int)))
  else
  ((r0 e kinds tl))

def s0(e:aW)(kinds:(List Int)):Option (Int×Int):=
 (qY e).bind fun r=>
 if(r !=(0:Int))then
 (some ((0:Int),r))
 else
 (r0 e kinds kinds)

def qI:Option (List (Int×Int)):=
 some (kq (kq (kq (kq (kq ([]:List (Int×Int)) (3:Int) (1:Int)) (8:Int) (2:Int)) (9:Int) (3:Int)) (10:Int) (4:Int)) (11:Int) (5:Int))

def rY(nx:(List aC)->Option (List aC))(out1:List aC)(n1:aC):Option (List aC):=
 (oI out1 ([n1])).bind fun out2=>
 nx out2

def rZ(out:(List aC))(nx:(List aC)->Option (List aC))(out1:List aC)(n:aC):Option (List aC):=
 if(decide ((0:Int)<=n.R))then
 (rY nx out1 (aC.mk n.Tag n.L (IntKind.i64.wrap (n.R+(out.length:Int))) n.Col n.Value))
 else
 (rY nx out1 n)

def kw(out:(List aC)):List aC->(List aC)->Option (List aC)
 |[],out1=>
  some out1
 |e1::tl,out1=>
  if(decide ((0:Int)<=e1.L))then
  (rZ out (kw out tl) out1 (aC.mk e1.Tag (IntKind.i64.wrap (e1.L+(out.length:Int))) e1.R e1.Col e1.Value))
  else
  (rZ out (kw out tl) out1 e1)

def Au(out:(List aC))(e:aW):Option (List aC):=
 kw out e.Nodes out

def jA(root:aC):List aW->Nat->(List aC)->(List Int)->Option aW
 |[],i,out,at1=>
  (fB at1 (0:Int)).bind fun e1=>
  (fB at1 (1:Int)).bind fun e2=>
  (oI out ([(aC.mk ({root with L:=e1}:aC).Tag ({root with L:=e1}:aC).L e2 ({root with L:=e1}:aC).Col ({root with L:=e1}:aC).Value)])).bind fun l2=>
  some (⟨l2⟩:aW)
 |e::tl,i,out,at1=>
  (Au out e).bind fun r=>
  (fB at1 (i:Int)).bind fun e3=>
  (some (at1.set (i:Int).toNat (IntKind.i64.wrap ((r.length:Int)-(1:Int))))).bind fun ar=>
  (jA root tl) (i+1) r ar

def mI(root:aC)(l:(List aW)):Option aW:=
 jA root l 0 ([]:List aC) ([(-1:Int),(-1:Int)])

def nY(root:aC)(l:(List aW)):List aW->aW->Option (aW×Int)
 |[],x=>
  (mI root l).bind fun r=>
  (qY r).bind fun r1=>
  if(r1 !=(0:Int))then
  (some ((⟨[]⟩:aW),r1))
  else
  (some (r,(0:Int)))
 |e::tl,x=>
  (qY e).bind fun r2=>
  if(r2 !=(0:Int))then
  (some ((⟨[]⟩:aW),r2))
  else
  ((nY root l tl) x)

def sZ(root:aC)(l:(List aW)):Option (aW×Int):=
 nY root l l (⟨[]⟩:aW)

def vg(n:aC):Option (aW×Int):=
 (sZ n ([])).bind fun r=>
 some (r.1,r.2)

def cb(n:aC):Option (aW×Int):=
 (vg n).bind fun r=>
 some (r.1,r.2)

def gD(s:am)(group:Bool):Option (List Int):=
 if group then
 (some s.groups)
 else
 (some s.kinds)

def kU(s:am)(n:km):Option (Int×Int):=
  if(!(n.Table==([])))then
  (if(!((ij s.behind (n.Table,n.Name)).isSome))then
  (some ((0:Int),(222:Int)))
  else
  (some (((ij s.behind (n.Table,n.Name)).getD (0:Int)),(0:Int))))
  else
  (if((((ij s.alone n.Name).getD []).length:Int)==(0:Int))then
  (some ((0:Int),(222:Int)))
  else
  (if((((ij s.alone n.Name).getD []).length:Int)==(1:Int))then
  ((fB ((ij s.alone n.Name).getD []) (0:Int)).bind fun e=>
  some (e,(0:Int)))
  else
  (some ((0:Int),(223:Int)))))

def iT(v:Int):List Int->Nat->Option Int
 |[],i=>
  some (-1:Int)
 |e::tl,i=>
  if(v==e)then
  (some (i:Int))
  else
  ((iT v tl) (i+1))

def mC(s:(List Int))(v:Int):Option Int:=
 iT v s 0

def eA(f:(f9->Option Bool)):List f9->Nat->Option Int
 |[],i=>
  some (-1:Int)
 |e::tl,i=>
  (f e).bind fun r=>
  if r then
  (some (i:Int))
  else
  ((eA f tl) (i+1))

def jp(s:(List f9))(f:(f9->Option Bool)):Option Int:=
 eA f s 0

def eB(s2:(List aC)):List aC->Nat->Option Bool
 |[],i=>
  some true
 |e::tl,i=>
  (fB s2 (i:Int)).bind fun e1=>
  if(!decide (e=e1))then
  (some false)
  else
  ((eB s2 tl) (i+1))

def jr(s1:(List aC))(s2:(List aC)):Option Bool:=
 if((s1.length:Int) !=(s2.length:Int))then
 (some false)
 else
 (eB s2 s1 0)

def mt(a1:aW)(b:aW):Option Bool:=
 (jr a1.Nodes b.Nodes).bind fun r=>
 some r

def lO(c:f9)(p:f9):Option Bool:=
  (if(p.Tag==c.Tag)then((mt p.Arg c.Arg).bind fun r=>
  some r)else some false).bind fun t=>
  some t

def mJ(i:Int)(ob:am):Option (Int×Int×am):=
 if(decide ((12:Int)<(ob.out.Aggs.length:Int)))then
 (some ((0:Int),(228:Int),ob))
 else
 (some ((IntKind.i64.wrap ((ob.out.Keys.length:Int)+i)),(0:Int),ob))

def kV(s:am)(a1:f9)(kind:Int):Option (Int×Int×am):=
  (jp s.out.Aggs (lO a1)).bind fun r=>
  if(decide (r<(0:Int)))then
  ((oI s.out.Aggs ([a1])).bind fun l7=>
  (oI s.groups ([kind])).bind fun l8=>
  mJ (s.out.Aggs.length:Int) ({({s with out:=({s.out with Aggs:=l7}:aL)}:am)with groups:=l8}:am))
  else
  (mJ r s)

def nv(s:am)(a1:f9):Option (Int×Int×am):=
  if(a1.Tag !=(1:Int))then
  ((s0 a1.Arg s.kinds).bind fun r1=>
  if((r1.2 !=(0:Int))||(((a1.Tag==(3:Int))&&(r1.1 !=(2:Int)))&&(r1.1 !=(0:Int))))then
  (some ((0:Int),(201:Int),s))
  else
  (if((a1.Tag==(4:Int))||(a1.Tag==(5:Int)))then
  (kV s a1 r1.1)
  else
  (kV s a1 (2:Int))))
  else
  (kV s a1 (2:Int))

def zI(tag:Int)(l:aW):Option (aW×Int):=
 (sZ (⟨tag,(0:Int),(0:Int),(0:Int),(⟨(0:Int),(0:Int),(0:Int),[]⟩:cJ)⟩:aC) ([l])).bind fun r=>
 some (r.1,r.2)

def C8(tag:Int)(l:aW)(r:aW):Option (aW×Int):=
 (sZ (⟨tag,(0:Int),(0:Int),(0:Int),(⟨(0:Int),(0:Int),(0:Int),[]⟩:cJ)⟩:aC) ([l,r])).bind fun r1=>
 some (r1.1,r1.2)

def eE(s:am)(leaf:(aC->Option (aW×Int)))(at1:Int)(e1:Int):Option (aW×Int×am):=
  if(e1 !=(0:Int))then
  (some ((⟨[]⟩:aW),e1,s))
  else
  ((leaf (⟨(2:Int),(0:Int),(0:Int),at1,(⟨(0:Int),(0:Int),(0:Int),[]⟩:cJ)⟩:aC)).bind fun r2=>
  some (r2.1,r2.2,s))

def fP(leaf:(aC->Option (aW×Int)))(ob:am)(a1:f9):Option (aW×Int×am):=
  (nv ob a1).bind fun r4=>
  if(r4.2.1 !=(0:Int))then
  (some ((⟨[]⟩:aW),r4.2.1,r4.2.2))
  else
  ((leaf (⟨(2:Int),(0:Int),(0:Int),r4.1,(⟨(0:Int),(0:Int),(0:Int),[]⟩:cJ)⟩:aC)).bind fun r5=>
  some (r5.1,r5.2,r4.2.2))

def py(x1:aW)(e5:Int)(ob1:am):Option (aW×Int×am):=
 some (x1,e5,ob1)

def je(over:am->Bool->Option ((List Int)×am))(group:Bool)(ob:am)(e4:Int)(x1:aW):Option (aW×Int×am):=
  if(e4==(0:Int))then
  ((over ob (group)).bind fun r7=>
  (s0 x1 r7.1).bind fun r8=>
  py x1 r8.2 r7.2)
  else
  (py x1 e4 ob)

def gU(leaf:(aC->Option (aW×Int)))(tags:(List (Int×Int)))(over:am->Bool->Option ((List Int)×am))(group:Bool)(e:dl)(parts:List aW)(x:aW)(ob:am):Option (aW×Int×am):=
  if((decide ((0:Int)<((ij tags e.Tag).getD (0:Int))))&&(!group))then
  (some ((⟨[]⟩:aW),(224:Int),ob))
  else
  (if(decide ((0:Int)<((ij tags e.Tag).getD (0:Int))))then
  (if(decide ((0:Int)<(parts.length:Int)))then
  ((fB parts (0:Int)).bind fun e2=>
  fP leaf ob (f9.mk (⟨((ij tags e.Tag).getD (0:Int)),(⟨[]⟩:aW)⟩:f9).Tag e2))
  else
  (fP leaf ob (⟨((ij tags e.Tag).getD (0:Int)),(⟨[]⟩:aW)⟩:f9)))
  else
  ((fB parts (0:Int)).bind fun e3=>
  (zI e.Tag e3).bind fun r6=>
  if((parts.length:Int)==(2:Int))then
  ((fB parts (1:Int)).bind fun e6=>
  (C8 e.Tag e3 e6).bind fun r9=>
  je over group ob r9.2 r9.1)
  else
  (je over group ob r6.2 r6.1)))

def eD(self__:am->dj->(aC->Option (aW×Int))->(List (Int×Int))->(am->Bool->Option ((List Int)×am))->Int->Bool->Option (aW×Int×am))(t:dj)(leaf:(aC->Option (aW×Int)))(tags:(List (Int×Int)))(over:am->Bool->Option ((List Int)×am))(group:Bool)(e:dl):Nat->Nat->(List aW)->aW->am->Option (aW×Int×am)
  |0,i3,parts1,x2,ob2=>
    gU leaf tags over group e parts1 x2 ob2
  |k1+1,i3,parts1,x2,ob2=>
    (fB ([e.L,e.R]) (i3:Int)).bind fun e8=>
    if(decide (e8<(0:Int)))then
    (gU leaf tags over group e parts1 x2 ob2)
    else
    ((self__ ob2 t leaf tags over e8 (group&&(((ij tags e.Tag).getD (0:Int))==(0:Int)))).bind fun r10=>
    if(r10.2.1 !=(0:Int))then
    (some (r10.1,r10.2.1,r10.2.2))
    else
    ((oI parts1 ([r10.1])).bind fun parts2=>
    (eD self__ t leaf tags over group e k1) (i3+1) parts2 x2 r10.2.2))

def cx:Nat->am->dj->(aC->Option (aW×Int))->(List (Int×Int))->(am->Bool->Option ((List Int)×am))->Int->Bool->Option (aW×Int×am)
  |0,_,_,_,_,_,_,_=>none
  |fu+1,s,t,leaf,tags,over,i,group=>
    (fB t.Nodes i).bind fun e=>
    if(e.Tag==(1:Int))then
    ((leaf (⟨(1:Int),(0:Int),(0:Int),(0:Int),e.Value⟩:aC)).bind fun r=>
    some (r.1,r.2,s))
    else
    (if(e.Tag==(2:Int))then
    ((kU s (⟨e.Table,e.Name⟩:km)).bind fun r1=>
    if((r1.2==(0:Int))&&group)then
    ((mC s.out.Keys r1.1).bind fun r3=>
    if(decide (r3<(0:Int)))then
    (eE s leaf r3 (225:Int))
    else
    (eE s leaf r3 r1.2))
    else
    (eE s leaf r1.1 r1.2))
    else
    (eD (cx fu) t leaf tags over group e 2 0 ([]:List aW) (⟨[]⟩:aW) s))

def se(s:am)(t:dj)(leaf:(aC->Option (aW×Int)))(tags:(List (Int×Int)))(over:am->Bool->Option ((List Int)×am))(i:Int)(group:Bool):Option (aW×Int×am):=
 cx gi s t leaf tags over i group

def mv(s:am)(t:dj)(group:Bool):Option (aW×Int×Int×am):=
  (qI).bind fun r=>
  (se s t cb r (fun(mc:am) (mx:Bool)=>(gD mc mx).map fun mr=>(mr,mc)) (IntKind.i64.wrap ((t.Nodes.length:Int)-(1:Int))) group).bind fun r1=>
  if(r1.2.1 !=(0:Int))then
  (some ((⟨[]⟩:aW),(0:Int),r1.2.1,r1.2.2))
  else
  (((fun(mc:am) (mx:Bool)=>(gD mc mx).map fun mr=>(mr,mc)) r1.2.2 (group)).bind fun r2=>
  (s0 r1.1 r2.1).bind fun r3=>
  some (r1.1,r3.1,r3.2,r2.2))

def m4(r:aW×Int×Int×am)(e:Int):Option (aW×Int×am):=
 some (r.1,e,r.2.2.2)

def fE(s:am)(t:dj)(group:Bool):Option (aW×Int×am):=
 (mv s t group).bind fun r=>
 if(((r.2.2.1==(0:Int))&&(r.2.1 !=(1:Int)))&&(r.2.1 !=(0:Int)))then
 (m4 r (226:Int))
 else
 (m4 r r.2.2.1)

def jO:List nJ->am->Option (Int×am)
  |[],ob=>
    some ((0:Int),ob)
  |e::tl,ob=>
    (iy ob e.Source).bind fun r=>
    if(r.1 !=(0:Int))then
    (some (r.1,r.2))
    else
    ((fE r.2 e.On false).bind fun r1=>
    if(r1.2.1 !=(0:Int))then
    (some (r1.2.1,r1.2.2))
    else
    ((oI r1.2.2.out.Joins ([(⟨e.Left,r1.1⟩:ew)])).bind fun l7=>
    (jO tl) ({r1.2.2 with out:=({r1.2.2.out with Joins:=l7}:aL)}:am)))

def gp(s:am):Option (Int×am):=
 jO ((({s with at_:=(1:Int)}:am).from_).Joins) ({s with at_:=(1:Int)}:am)

def qf(e:Int)(ob:am):Option (Int×am):=
 some (e,ob)

def hZ(s:am):Option (Int×am):=
  if(decide ((0:Int)<((((({s with at_:=(2:Int)}:am).from_).Where).Nodes).length:Int)))then
  ((fE ({s with at_:=(2:Int)}:am) ((({s with at_:=(2:Int)}:am).from_).Where) false).bind fun r=>
  qf r.2.1 ({r.2.2 with out:=({r.2.2.out with Where:=r.1}:aL)}:am))
  else
  (qf (0:Int) ({s with at_:=(2:Int)}:am))

def lp:List km->am->Option (Int×am)
  |[],ob=>
    some ((0:Int),ob)
  |e::tl,ob=>
    (kU ob e).bind fun r=>
    if(r.2 !=(0:Int))then
    (some (r.2,ob))
    else
    ((oI ob.out.Keys ([r.1])).bind fun l7=>
    (fB ob.kinds r.1).bind fun e1=>
    (oI ob.groups ([e1])).bind fun l8=>
    (lp tl) ({({ob with out:=({ob.out with Keys:=l7}:aL)}:am)with groups:=l8}:am))

def gq(s:am):Option (Int×am):=
 lp ((({s with at_:=(3:Int)}:am).from_).Group) ({s with at_:=(3:Int)}:am)

def eg(f:(dl->Option Bool)):List dl->Nat->Option Int
 |[],i=>
  some (-1:Int)
 |e::tl,i=>
  (f e).bind fun r=>
  if r then
  (some (i:Int))
  else
  ((eg f tl) (i+1))

def iM(s:(List dl))(f:(dl->Option Bool)):Option Int:=
 eg f s 0

def fj(s:(List dl))(f:(dl->Option Bool)):Option Bool:=
 (iM s f).bind fun r=>
 some (decide ((0:Int)<=r))

def nw(tags:(List (Int×Int)))(n:dl):Option Bool:=
 some (decide ((0:Int)<((ij tags n.Tag).getD (0:Int))))

def pz(tags:(List (Int×Int)))(p:fQ):Option Bool:=
 (fj p.Tree.Nodes (nw tags)).bind fun r=>
 some r

def eh(f:(fQ->Option Bool)):List fQ->Nat->Option Int
 |[],i=>
  some (-1:Int)
 |e::tl,i=>
  (f e).bind fun r=>
  if r then
  (some (i:Int))
  else
  ((eh f tl) (i+1))

def iN(s:(List fQ))(f:(fQ->Option Bool)):Option Int:=
 eh f s 0

def fk(s:(List fQ))(f:(fQ->Option Bool)):Option Bool:=
 (iN s f).bind fun r=>
 some (decide ((0:Int)<=r))

def vc(s:aQ):Option Bool:=
  (qI).bind fun r=>
  (if(!((decide ((0:Int)<(s.Group.length:Int)))||(decide ((0:Int)<(s.Having.Nodes.length:Int)))))then((fk s.Items (pz r)).bind fun r1=>
  some r1)else some true).bind fun t=>
  some t

def jP:List fQ->am->Option (Int×am)
  |[],ob1=>
    some ((0:Int),ob1)
  |e::tl,ob1=>
    (mv ob1 e.Tree ob1.out.Grouped).bind fun r1=>
    if(r1.2.2.1 !=(0:Int))then
    (some (r1.2.2.1,r1.2.2.2))
    else
    ((oI r1.2.2.2.out.Items ([r1.1])).bind fun l14=>
    (jP tl) ({r1.2.2.2 with out:=({r1.2.2.2.out with Items:=l14}:aL)}:am))

def ir(ob:am):Option (Int×am):=
 jP ob.from_.Items ob

def ln:List Int->Nat->am->Option (Int×am)
  |[],i4,ob2=>
    ir ob2
  |e1::tl1,i4,ob2=>
    (vg (⟨(2:Int),(0:Int),(0:Int),(i4:Int),(⟨(0:Int),(0:Int),(0:Int),[]⟩:cJ)⟩:aC)).bind fun r2=>
    if(r2.2 !=(0:Int))then
    (some (r2.2,ob2))
    else
    ((oI ob2.out.Items ([r2.1])).bind fun l22=>
    (ln tl1) (i4+1) ({ob2 with out:=({ob2.out with Items:=l22}:aL)}:am))

def ia(s:am):Option (Int×am):=
  (vc (({s with at_:=(4:Int)}:am).from_)).bind fun r=>
  (some ({({s with at_:=(4:Int)}:am)with out:=({({s with at_:=(4:Int)}:am).out with Distinct:=(({s with at_:=(4:Int)}:am).from_).Distinct}:aL)}:am)).bind fun sc=>
  if(((({sc with out:=({sc.out with Grouped:=r}:aL)}:am).from_).Star)&&((({sc with out:=({sc.out with Grouped:=r}:aL)}:am).out).Grouped))then
  (some ((227:Int),({sc with out:=({sc.out with Grouped:=r}:aL)}:am)))
  else
  (if((({sc with out:=({sc.out with Grouped:=r}:aL)}:am).from_).Star)then
  (ln sc.kinds 0 ({sc with out:=({sc.out with Grouped:=r}:aL)}:am))
  else
  (ir ({sc with out:=({sc.out with Grouped:=r}:aL)}:am)))

def px(e:Int)(ob:am):Option (Int×am):=
 some (e,ob)

def iz(s:am):Option (Int×am):=
  if(decide ((0:Int)<((((({s with at_:=(5:Int)}:am).from_).Having).Nodes).length:Int)))then
  ((fE ({s with at_:=(5:Int)}:am) ((({s with at_:=(5:Int)}:am).from_).Having) true).bind fun r=>
  px r.2.1 ({r.2.2 with out:=({r.2.2.out with Having:=r.1}:aL)}:am))
  else
  (px (0:Int) ({s with at_:=(5:Int)}:am))

def oX(e:Int)(ob:am):Option (Int×am):=
 some (e,ob)

def jB:Nat->Nat->Int->am->Option (Int×am)
 |0,i,e1,ob1=>
  oX e1 ob1
 |k1+1,i,e1,ob1=>
  (fB ([(fun(mc:am) (mx:Unit)=>jd mc),(fun(mc:am) (mx:Unit)=>gp mc),(fun(mc:am) (mx:Unit)=>hZ mc),(fun(mc:am) (mx:Unit)=>gq mc),(fun(mc:am) (mx:Unit)=>ia mc),(fun(mc:am) (mx:Unit)=>iz mc)]) (i:Int)).bind fun fn=>
  (fn ob1 ()).bind fun r=>
  if(r.1 !=(0:Int))then
  (oX r.1 r.2)
  else
  ((jB k1) (i+1) r.1 r.2)

def nu(s:am):Option (Int×am):=
 jB 6 0 (0:Int) s

def gG(over:(List Int)):List aW->(List Int)->Option (List Int)
 |[],out=>
  some out
 |e::tl,out=>
  (s0 e over).bind fun r=>
  (oI out ([r.1])).bind fun out1=>
  (gG over tl) out1

def kT(s:am)(over:(List Int)):Option (List Int):=
 gG over s.out.Items ([]:List Int)

def kK(s:am):Option (List Int):=
 if s.out.Grouped then
 (kT s s.groups)
 else
 (kT s s.kinds)

def m5(nx:(List cS)->Option (List cS))(out1:List cS)(own:cS):Option (List cS):=
 (oI out1 ([own])).bind fun out2=>
 nx out2

def gv:List fQ->(List cS)->Option (List cS)
 |[],out1=>
  some out1
 |e::tl,out1=>
  (fB e.Tree.Nodes (IntKind.i64.wrap ((e.Tree.Nodes.length:Int)-(1:Int)))).bind fun e1=>
  if(e.As==([]))then
  (m5 (gv tl) out1 e1.Name)
  else
  (m5 (gv tl) out1 e.As)

def lm(s:am)(out:List cS):Option (List cS):=
 gv s.from_.Items out

def jN(nx1:(List cS)->Option (List cS)):List cd->(List cS)->Option (List cS)
 |[],out4=>
  nx1 out4
 |e4::tl2,out4=>
  (oI out4 ([e4.Name])).bind fun out5=>
  (jN nx1 tl2) out5

def iq(s:am):List Int->(List cS)->Option (List cS)
 |[],out3=>
  lm s out3
 |e2::tl1,out3=>
  (fB s.Catalog.Tables e2).bind fun e3=>
  jN (iq s tl1) e3.Columns out3

def nt(s:am):Option (List cS):=
 if s.from_.Star then
 (iq s s.out.Tables ([]:List cS))
 else
 (lm s ([]:List cS))

def kx:List Int->Nat->(List Int)->Option (Bool×List Int)
  |[],i,all1=>
    some (true,all1)
  |e::tl,i,all1=>
    (fB all1 (i:Int)).bind fun e1=>
    if(e1==(0:Int))then
    ((some (all1.set (i:Int).toNat e)).bind fun st=>
    (kx tl) (i+1) st)
    else
    (if((e !=(0:Int))&&(e !=e1))then
    (some (false,all1))
    else
    ((kx tl) (i+1) all1))

def pw(all:(List Int))(l1:(List Int)):Option (Bool×List Int):=
 if((all.length:Int) !=(l1.length:Int))then
 (some (false,all))
 else
 (kx l1 0 all)

def Di(k:tf)(names:(List cS)):Option (Int×Int):=
  if(k.Name==([]))then
  (if((decide (k.Number<(1:Int)))||(decide ((names.length:Int)<k.Number)))then
  (some ((0:Int),(222:Int)))
  else
  (some ((IntKind.i64.wrap (k.Number-(1:Int))),(0:Int))))
  else
  ((fC names k.Name).bind fun r=>
  if(decide (r<(0:Int)))then
  (some ((0:Int),(222:Int)))
  else
  ((dN names (IntKind.i64.wrap (r+(1:Int))) (names.length:Int)).bind fun y=>
  (fM y k.Name).bind fun r1=>
  if r1 then
  (some ((0:Int),(223:Int)))
  else
  (some (r,(0:Int)))))

def sf:List tf->bu->bu->Option (bu×Int×Int)
  |[],x1,b3=>
    some (b3,(0:Int),(0:Int))
  |e1::tl1,x1,b3=>
    (Di e1 b3.Names).bind fun r2=>
    if(r2.2 !=(0:Int))then
    (some ((⟨[],[],[],[],(0:Int)⟩:bu),(90:Int),r2.2))
    else
    ((oI b3.Order ([(⟨r2.1,e1.Desc⟩:vR)])).bind fun l6=>
    (sf tl1) x1 ({b3 with Order:=l6}:bu))

def n7(nx:Nat->bu->bu->Option (bu×Int×Int))(i:Nat)(r3:Int×am)(x2:bu)(b10:bu):Option (bu×Int×Int):=
 (oI b10.Selects ([r3.2.out])).bind fun l11=>
 nx (i+1) x2 ({b10 with Selects:=l11}:bu)

def ky(c:aR)(q:cu):List aQ->Nat->bu->bu->Option (bu×Int×Int)
  |[],i,x,b2=>
    sf q.Keys x b2
  |e::tl,i,x,b2=>
    (some (⟨c,e,(⟨[],[],(⟨[]⟩:aW),(⟨[]⟩:aW),false,false,[],[],[]⟩:aL),[],[],[],[],[],(0:Int)⟩:am)).bind fun sc=>
    (nu sc).bind fun r3=>
    if(r3.1 !=(0:Int))then
    (some ((⟨[],[],[],[],(0:Int)⟩:bu),(IntKind.i64.wrap ((IntKind.i64.wrap ((10:Int)*(i:Int)))+r3.2.at_)),r3.1))
    else
    ((kK r3.2).bind fun r4=>
    if((i:Int)==(0:Int))then
    ((nt r3.2).bind fun r5=>
    n7 (ky c q tl) i r3 x ({({({({b2 with Names:=r5}:bu)with Selects:=b2.Selects}:bu)with Kinds:=r4}:bu)with Order:=b2.Order}:bu))
    else
    ((pw b2.Kinds r4).bind fun r6=>
    if(!r6.1)then
    (some ((⟨[],[],[],[],(0:Int)⟩:bu),(IntKind.i64.wrap ((IntKind.i64.wrap ((10:Int)*(i:Int)))+(6:Int))),(229:Int)))
    else
    (n7 (ky c q tl) i r3 x ({b2 with Kinds:=r6.2}:bu))))

def xz(c:aR)(q:cu):Option (bu×Int×Int):=
  (tF c).bind fun r=>
  if(r !=(0:Int))then
  (some ((⟨[],[],[],[],(0:Int)⟩:bu),(0:Int),r))
  else
  ((Az q).bind fun r1=>
  if(r1 !=(0:Int))then
  (some ((⟨[],[],[],[],(0:Int)⟩:bu),(0:Int),r1))
  else
  (ky c q q.Selects 0 (⟨[],[],[],[],(0:Int)⟩:bu) ({({({(⟨[],[],[],[],q.Limit⟩:bu)with Selects:=([]:List aL)}:bu)with Kinds:=([]:List Int)}:bu)with Order:=([]:List vR)}:bu)))

def EO(s:cS):Option fQ:=
 some (⟨(⟨[(⟨(2:Int),(-1:Int),(-1:Int),(⟨(0:Int),(0:Int),(0:Int),[]⟩:cJ),[],s⟩:dl)]⟩:dj),[]⟩:fQ)

def zC:Option aR:=
 some (⟨[(⟨[116],[(⟨[97],(2:Int)⟩:cd),(⟨[98],(3:Int)⟩:cd)],[]⟩:ce),(⟨[117],[(⟨[97],(2:Int)⟩:cd)],[]⟩:ce)]⟩:aR)

def zB:Option Bool:=
  (EO ([98])).bind fun r=>
  (zC).bind fun r1=>
  (xz r1 (⟨[(⟨false,false,[r],(⟨[116],[]⟩:ef),[],(⟨[]⟩:dj),(⟨[]⟩:dj),[]⟩:aQ)],[],(-1:Int)⟩:cu)).bind fun r2=>
  (zC).bind fun r3=>
  (xz r3 (cu.mk (⟨[(⟨false,false,[r],(⟨[116],[]⟩:ef),[],(⟨[]⟩:dj),(⟨[]⟩:dj),[]⟩:aQ)],[],(-1:Int)⟩:cu).Selects ([(⟨[],(2:Int),false⟩:tf)]) (⟨[(⟨false,false,[r],(⟨[116],[]⟩:ef),[],(⟨[]⟩:dj),(⟨[]⟩:dj),[]⟩:aQ)],[],(-1:Int)⟩:cu).Limit)).bind fun r4=>
  (if(((((r2.2.2==(0:Int))&&(r2.2.1==(0:Int)))&&(r4.2.2==(222:Int)))&&(r4.2.1==(90:Int)))&&((r2.1.Names.length:Int)==(1:Int)))then((fB r2.1.Names (0:Int)).bind fun e=>
  some (e==([98])))else some false).bind fun t=>
  (if t then((fB r2.1.Kinds (0:Int)).bind fun e1=>
  some (e1==(3:Int)))else some false).bind fun t1=>
  (if t1 then((fB r2.1.Selects (0:Int)).bind fun e2=>
  (fB e2.Items (0:Int)).bind fun e3=>
  (fB e3.Nodes (0:Int)).bind fun e4=>
  some (e4.Col==(1:Int)))else some false).bind fun t2=>
  some t2

def tw(l:(List Int))(most:Int):Option (List Int):=
 (dN l 0 (min (l.length:Int) most)).bind fun y=>
 (oI ([]:List Int) y).bind fun x=>
 some x

def qc(l:(List ce))(most:Int):Option (List ce):=
 (dN l 0 (min (l.length:Int) most)).bind fun y=>
 (oI ([]:List ce) y).bind fun x=>
 some x

def mG(l:(List cd))(most:Int):Option (List cd):=
 (dN l 0 (min (l.length:Int) most)).bind fun y=>
 (oI ([]:List cd) y).bind fun x=>
 some x

def nf:List ce->Nat->aR->Option aR
 |[],i,out=>
  some out
 |e::tl,i,out=>
  (fB out.Tables (i:Int)).bind fun e1=>
  (fB out.Tables (i:Int)).bind fun e2=>
  (mG e2.Columns (5:Int)).bind fun r1=>
  (tw e2.Keys (5:Int)).bind fun r2=>
  (some (out.Tables.set (i:Int).toNat ({e2 with Columns:=r1}:ce))).bind fun st=>
  (fB st (i:Int)).bind fun e3=>
  (some (st.set (i:Int).toNat ({e3 with Keys:=r2}:ce))).bind fun st1=>
  (nf tl) (i+1) ({out with Tables:=st1}:aR)

def wn(c:aR):Option aR:=
 (qc c.Tables (5:Int)).bind fun r=>
 nf r 0 ({(⟨r⟩:aR)with Tables:=r}:aR)

def pi(l:(List aQ))(most:Int):Option (List aQ):=
 (dN l 0 (min (l.length:Int) most)).bind fun y=>
 (oI ([]:List aQ) y).bind fun x=>
 some x

def oT(l:(List tf))(most:Int):Option (List tf):=
 (dN l 0 (min (l.length:Int) most)).bind fun y=>
 (oI ([]:List tf) y).bind fun x=>
 some x

def qV(l:(List fQ))(most:Int):Option (List fQ):=
 (dN l 0 (min (l.length:Int) most)).bind fun y=>
 (oI ([]:List fQ) y).bind fun x=>
 some x

def qU(l:(List nJ))(most:Int):Option (List nJ):=
 (dN l 0 (min (l.length:Int) most)).bind fun y=>
 (oI ([]:List nJ) y).bind fun x=>
 some x

def nT(l:(List km))(most:Int):Option (List km):=
 (dN l 0 (min (l.length:Int) most)).bind fun y=>
 (oI ([]:List km) y).bind fun x=>
 some x

def qT(l:(List dl))(most:Int):Option (List dl):=
 (dN l 0 (min (l.length:Int) most)).bind fun y=>
 (oI ([]:List dl) y).bind fun x=>
 some x

def nh:List dl->Nat->dj->Option dj
 |[],i,out=>
  some out
 |e::tl,i,out=>
  (fB out.Nodes (i:Int)).bind fun e1=>
  (dN e1.Value.S 0 (min (e1.Value.S.length:Int) (60:Int))).bind fun y=>
  (dN e1.Table 0 (min (e1.Table.length:Int) (40:Int))).bind fun y1=>
  (dN e1.Name 0 (min (e1.Name.length:Int) (40:Int))).bind fun y2=>
  (some (out.Nodes.set (i:Int).toNat ({e1 with Value:=({e1.Value with S:=y}:cJ)}:dl))).bind fun st=>
  (fB st (i:Int)).bind fun e2=>
  (some (st.set (i:Int).toNat ({e2 with Table:=y1}:dl))).bind fun st1=>
  (fB st1 (i:Int)).bind fun e3=>
  (some (st1.set (i:Int).toNat ({e3 with Name:=y2}:dl))).bind fun st2=>
  (nh tl) (i+1) ({out with Nodes:=st2}:dj)

def ph(t:dj):Option dj:=
 (qT t.Nodes (80:Int)).bind fun r=>
 nh r 0 ({(⟨r⟩:dj)with Nodes:=r}:dj)

def pQ(nx:Nat->cu->Option cu)(i:Nat)(q1:cu):List nJ->Nat->aQ->Option cu
 |[],i2,s1=>
  (ph s1.Where).bind fun r5=>
  (ph s1.Having).bind fun r6=>
  (some (q1.Selects.set (i:Int).toNat ({({({({s1 with Where:=r5}:aQ)with Having:=r6}:aQ)with Items:=s1.Items}:aQ)with Joins:=s1.Joins}:aQ))).bind fun st=>
  nx (i+1) ({q1 with Selects:=st}:cu)
 |e4::tl2,i2,s1=>
  (fB s1.Joins (i2:Int)).bind fun e5=>
  (fB s1.Joins (i2:Int)).bind fun e6=>
  (ph e6.On).bind fun r7=>
  (some (s1.Joins.set (i2:Int).toNat ({e6 with On:=r7}:nJ))).bind fun st1=>
  (pQ nx i q1 tl2) (i2+1) ({s1 with Joins:=st1}:aQ)

def pR(nx:Nat->cu->Option cu)(i:Nat)(q1:cu):List fQ->Nat->aQ->Option cu
 |[],i1,s=>
  pQ nx i q1 s.Joins 0 s
 |e3::tl1,i1,s=>
  (fB s.Items (i1:Int)).bind fun e7=>
  (fB s.Items (i1:Int)).bind fun e8=>
  (ph e8.Tree).bind fun r8=>
  (some (s.Items.set (i1:Int).toNat ({e8 with Tree:=r8}:fQ))).bind fun st2=>
  (pR nx i q1 tl1) (i1+1) ({s with Items:=st2}:aQ)

def ly:List aQ->Nat->cu->Option cu
 |[],i,q1=>
  some q1
 |e::tl,i,q1=>
  (fB q1.Selects (i:Int)).bind fun e1=>
  (fB q1.Selects (i:Int)).bind fun e2=>
  (qV e2.Items (7:Int)).bind fun r2=>
  (qU e2.Joins (3:Int)).bind fun r3=>
  (nT e2.Group (4:Int)).bind fun r4=>
  pR (ly tl) i q1 r2 0 ({({({e2 with Group:=r4}:aQ)with Items:=r2}:aQ)with Joins:=r3}:aQ)

def xn(q:cu):Option cu:=
 (pi q.Selects (4:Int)).bind fun r=>
 (oT q.Keys (4:Int)).bind fun r1=>
 ly r 0 ({({q with Keys:=r1}:cu)with Selects:=r}:cu)

def tW(c:Int):Option Bool:=
 some ((decide ((97:Int)<=c))&&(decide (c<=(122:Int))))

def rK(s:cS):List cS->Option Bool
 |[]=>
  some false
 |e::tl=>
  if(e==s)then
  (some true)
  else
  ((rK s tl))

def DU(l:(List cS))(s:cS):Option Bool:=
 rK s l

def zw:Option (List cS):=
 some ([[83,69,76,69,67,84],[68,73,83,84,73,78,67,84],[70,82,79,77],[76,69,70,84],[74,79,73,78],[79,78],[87,72,69,82,69],[71,82,79,85,80],[66,89],[72,65,86,73,78,71],[85,78,73,79,78],[65,76,76],[79,82,68,69,82],[76,73,77,73,84],[65,83,67],[68,69,83,67],[65,83],[65,78,68],[79,82],[78,79,84],[73,83],[78,85,76,76],[84,82,85,69],[70,65,76,83,69],[67,79,85,78,84],[83,85,77],[77,73,78],[77,65,88]])

def uU(s:cS):Option Bool:=
 (zw).bind fun r=>
 (DU r s).bind fun r1=>
 some r1

def pc(nx:(List Int)->Int->Option cS)(out:List Int)(i:Int)(c1:Int):Option cS:=
 (oI out ([c1])).bind fun out1=>
 nx out1 (IntKind.i64.wrap (i+(1:Int)))

def lY(s:cS):Nat->(List Int)->Int->Option cS
  |0,_,_=>none
  |n+1,out,i=>
    if(decide (i<(s.length:Int)))then
    ((uy s i).bind fun b=>
    (tW b).bind fun r=>
    if r then
    (pc (lY s n) out i (IntKind.u8.wrap ((IntKind.u8.wrap (b-(97:Int)))+(65:Int))))
    else
    (pc (lY s n) out i b))
    else
    (some (oL out))

def wg(s:cS):Option cS:=
 lY s gi ([]:List Int) (0:Int)

def zu(c:Int):Option Bool:=
 some ((decide ((48:Int)<=c))&&(decide (c<=(57:Int))))

def ol(s:cS):Nat->Int->Option Bool
  |0,_=>none
  |n+1,i=>
    if(decide (i<(s.length:Int)))then
    ((uy s i).bind fun b1=>
    (tW b1).bind fun r3=>
    (if(!r3)then((uy s i).bind fun b2=>
    (zu b2).bind fun r4=>
    some (!r4))else some false).bind fun t2=>
    (if t2 then((uy s i).bind fun b3=>
    some (b3 !=(95:Int)))else some false).bind fun t3=>
    if t3 then
    (some false)
    else
    ((ol s n) (IntKind.i64.wrap (i+(1:Int)))))
    else
    (some true)

def rL(s:cS):Option Bool:=
  (if(!((decide ((s.length:Int)<(1:Int)))||(decide ((16:Int)<(s.length:Int)))))then((uy s (0:Int)).bind fun b=>
  (tW b).bind fun r=>
  some (!r))else some true).bind fun t=>
  (if(!t)then((wg s).bind fun r1=>
  (uU r1).bind fun r2=>
  some r2)else some true).bind fun t1=>
  if t1 then
  (some false)
  else
  (ol s gi (0:Int))

def xS(kind:Int):Option cS:=
  if(kind==(1:Int))then
  (some ([98,111,111,108]))
  else
  (if(kind==(2:Int))then
  (some ([105,110,116]))
  else
  (if(kind==(3:Int))then
  (some ([116,101,120,116]))
  else
  (some ([]))))

def lk(t:ce)(nx:Int->Option Bool)(i:Int)(e:cd):Nat->Int->Option Bool
  |0,_=>none
  |n1+1,k=>
    if(decide (k<i))then
    ((fB t.Columns k).bind fun e1=>
    if(e1.Name==e.Name)then
    (some false)
    else
    ((lk t nx i e n1) (IntKind.i64.wrap (k+(1:Int)))))
    else
    (nx (IntKind.i64.wrap (i+(1:Int))))

def lj(t:ce):Nat->Int->Option Bool
  |0,_=>none
  |n2+1,i1=>
    if(decide (i1<(t.Keys.length:Int)))then
    ((fB t.Keys i1).bind fun e2=>
    (if(!((decide (e2<(0:Int)))||(decide ((t.Columns.length:Int)<=e2))))then((if(decide ((0:Int)<i1))then((fB t.Keys (IntKind.i64.wrap (i1-(1:Int)))).bind fun e3=>
    some (decide (e2<=e3)))else some false).bind fun t3=>
    some t3)else some true).bind fun t2=>
    if t2 then
    (some false)
    else
    ((lj t n2) (IntKind.i64.wrap (i1+(1:Int)))))
    else
    (some true)

def jM(t:ce):Nat->Int->Option Bool
  |0,_=>none
  |n+1,i=>
    if(decide (i<(t.Columns.length:Int)))then
    ((fB t.Columns i).bind fun e=>
    (rL e.Name).bind fun r1=>
    (if(!(!r1))then((xS e.Kind).bind fun r2=>
    some (r2==([])))else some true).bind fun t1=>
    if t1 then
    (some false)
    else
    (lk t (jM t n) i e gi (0:Int)))
    else
    (lj t gi (0:Int))

def pL(t:ce):Option Bool:=
 (rL t.Name).bind fun r=>
 if(((!r)||(decide ((t.Columns.length:Int)<(1:Int))))||(decide ((4:Int)<(t.Columns.length:Int))))then
 (some false)
 else
 (jM t gi (0:Int))

def o8(c:aR)(nx:Int->Option Bool)(i:Int)(e:ce):Nat->Int->Option Bool
  |0,_=>none
  |n1+1,k=>
    if(decide (k<i))then
    ((fB c.Tables k).bind fun e1=>
    if(e1.Name==e.Name)then
    (some false)
    else
    ((o8 c nx i e n1) (IntKind.i64.wrap (k+(1:Int)))))
    else
    (nx (IntKind.i64.wrap (i+(1:Int))))

def nb(c:aR):Nat->Int->Option Bool
  |0,_=>none
  |n+1,i=>
    if(decide (i<(c.Tables.length:Int)))then
    ((fB c.Tables i).bind fun e=>
    (pL e).bind fun r=>
    if(!r)then
    (some false)
    else
    (o8 c (nb c n) i e gi (0:Int)))
    else
    (some true)

def wb(c:aR):Option Bool:=
 if(decide ((4:Int)<(c.Tables.length:Int)))then
 (some false)
 else
 (nb c gi (0:Int))

def zt:Option (List cS):=
 some ([[83,69,76,69,67,84],[68,73,83,84,73,78,67,84],[70,82,79,77],[76,69,70,84],[74,79,73,78],[79,78],[87,72,69,82,69],[71,82,79,85,80],[66,89],[72,65,86,73,78,71],[85,78,73,79,78],[65,76,76],[79,82,68,69,82],[76,73,77,73,84],[65,83,67],[68,69,83,67],[65,83],[65,78,68],[79,82],[78,79,84],[73,83],[78,85,76,76],[84,82,85,69],[70,65,76,83,69],[67,79,85,78,84],[83,85,77],[77,73,78],[77,65,88]])

def oj(nx:(List Int)->Int->Option Bool)(up:List Int)(x:Int)(c2:Int):Option Bool:=
 (oI up ([c2])).bind fun up1=>
 nx up1 (IntKind.i64.wrap (x+(1:Int)))

def mp(up:List Int)(r:(List cS)):Nat->Nat->Option Bool
 |0,i=>
  some true
 |k1+1,i=>
  (fB r (i:Int)).bind fun e1=>
  if(e1==(oL up))then
  (some false)
  else
  ((mp up r k1) (i+1))

def lb(s:cS):Nat->(List Int)->Int->Option Bool
  |0,_,_=>none
  |n+1,up,x=>
    if(decide (x<(s.length:Int)))then
    ((uy s x).bind fun b2=>
    if(((!((decide ((97:Int)<=b2))&&(decide (b2<=(122:Int)))))&&((decide (b2<(48:Int)))||(decide ((57:Int)<b2))))&&(b2 !=(95:Int)))then
    (some false)
    else
    (if((decide ((97:Int)<=b2))&&(decide (b2<=(122:Int))))then
    (oj (lb s n) up x (IntKind.u8.wrap (b2-(32:Int))))
    else
    (oj (lb s n) up x b2)))
    else
    ((zt).bind fun r=>
    mp up r 28 0)

def nO(s:cS):Option Bool:=
  (if(!((decide ((s.length:Int)<(1:Int)))||(decide ((16:Int)<(s.length:Int)))))then((uy s (0:Int)).bind fun b=>
  some (decide (b<(97:Int))))else some true).bind fun t=>
  (if(!t)then((uy s (0:Int)).bind fun b1=>
  some (decide ((122:Int)<b1)))else some true).bind fun t1=>
  if t1 then
  (some false)
  else
  (lb s gi ([]:List Int) (0:Int))

def nF(s:cS):Option Bool:=
  (if(!(s==([])))then((nO s).bind fun r=>
  some r)else some true).bind fun t=>
  some t

def tU(tag:Int):Option Int:=
  if((decide (tag<(1:Int)))||(decide ((23:Int)<tag)))then
  (some (-1:Int))
  else
  (if(decide (tag<=(3:Int)))then
  (some (0:Int))
  else
  (if(decide (tag<=(11:Int)))then
  (some (1:Int))
  else
  (some (2:Int))))

def pd(v:cJ):Option Bool:=
  if(v.Kind==(0:Int))then
  (some (decide (v=(⟨(0:Int),(0:Int),(0:Int),[]⟩:cJ))))
  else
  (if(v.Kind==(1:Int))then
  (some (((v.U==(0:Int))&&(v.S==([])))&&((v.N==(0:Int))||(v.N==(1:Int)))))
  else
  (if(v.Kind==(2:Int))then
  (some ((v.U==(0:Int))&&(v.S==([]))))
  else
  (if(v.Kind==(3:Int))then
  (some (((v.N==(0:Int))&&(v.U==(0:Int)))&&(decide ((v.S.length:Int)<=(40:Int)))))
  else
  (some ((v.Kind==(4:Int))&&(v.S==([])))))))

def tX(v:cJ):Option Bool:=
 (pd v).bind fun r=>
 some (r&&(v.Kind !=(4:Int)))

def nc(v:cJ):Nat->Int->Option Bool
  |0,_=>none
  |n+1,x=>
    if(decide (x<(v.S.length:Int)))then
    ((uy v.S x).bind fun b=>
    (if(!(decide (b<(32:Int))))then((uy v.S x).bind fun b1=>
    some (decide ((126:Int)<b1)))else some true).bind fun t=>
    if t then
    (some false)
    else
    ((nc v n) (IntKind.i64.wrap (x+(1:Int)))))
    else
    ((tX v).bind fun r=>
    some (r&&(decide ((0:Int)<=v.N))))

def wP(v:cJ):Option Bool:=
 nc v gi (0:Int)

def uT(n:dl):Option Bool:=
  if(n.Tag==(1:Int))then
  ((wP n.Value).bind fun r=>
  some ((r&&(n.Table==([])))&&(n.Name==([]))))
  else
  (if(n.Tag==(2:Int))then
  ((if(decide (n.Value=(⟨(0:Int),(0:Int),(0:Int),[]⟩:cJ)))then((nO n.Name).bind fun r1=>
  some r1)else some false).bind fun t=>
  (if t then((nF n.Table).bind fun r2=>
  some r2)else some false).bind fun t1=>
  some t1)
  else
  (some (((decide (n.Value=(⟨(0:Int),(0:Int),(0:Int),[]⟩:cJ)))&&(n.Table==([])))&&(n.Name==([])))))

def jv:Nat->dj->Int->Option (Int×Int)
  |0,_,_=>none
  |fu+1,t,place=>
    if((decide (place<(0:Int)))||(decide ((t.Nodes.length:Int)<=place)))then
    (some ((0:Int),(0:Int)))
    else
    ((fB t.Nodes place).bind fun e=>
    (tU e.Tag).bind fun r=>
    (if(!(decide (r<(0:Int))))then((uT e).bind fun r1=>
    some (!r1))else some true).bind fun t1=>
    if t1 then
    (some ((0:Int),(0:Int)))
    else
    (if(r==(0:Int))then
    (if((e.L !=(-1:Int))||(e.R !=(-1:Int)))then
    (some ((0:Int),(0:Int)))
    else
    (some ((1:Int),(1:Int))))
    else
    (((jv fu) t (IntKind.i64.wrap (place-(1:Int)))).bind fun r2=>
    if(r2.1==(0:Int))then
    (some ((0:Int),(0:Int)))
    else
    (if(r==(1:Int))then
    (if((e.L !=(IntKind.i64.wrap (place-(1:Int))))||(e.R !=(-1:Int)))then
    (some ((0:Int),(0:Int)))
    else
    (some ((IntKind.i64.wrap (r2.1+(1:Int))),(IntKind.i64.wrap (r2.2+(1:Int))))))
    else
    (((jv fu) t (IntKind.i64.wrap ((IntKind.i64.wrap (place-(1:Int)))-r2.1))).bind fun r3=>
    if(((r3.1==(0:Int))||(e.R !=(IntKind.i64.wrap (place-(1:Int)))))||(e.L !=(IntKind.i64.wrap ((IntKind.i64.wrap (place-(1:Int)))-r2.1))))then
    (some ((0:Int),(0:Int)))
    else
    (some ((IntKind.i64.wrap ((IntKind.i64.wrap (r2.1+r3.1))+(1:Int))),(IntKind.i64.wrap ((max r2.2 r3.2)+(1:Int))))))))))

def BH(t:dj)(place:Int):Option (Int×Int):=
 jv gi t place

def mo(t:dj):Option Bool:=
  if((decide ((t.Nodes.length:Int)<(1:Int)))||(decide ((300:Int)<(t.Nodes.length:Int))))then
  (some false)
  else
  ((BH t (IntKind.i64.wrap ((t.Nodes.length:Int)-(1:Int)))).bind fun r=>
  some ((r.1==(t.Nodes.length:Int))&&(decide (r.2<=(20:Int)))))

def rG(s:ef):Option Bool:=
  (nO s.Table).bind fun r=>
  (if r then((nF s.As).bind fun r1=>
  some r1)else some false).bind fun t=>
  some t

def vv(t:dj):Option Bool:=
  (if(!((t.Nodes.length:Int)==(0:Int)))then((mo t).bind fun r=>
  some r)else some true).bind fun t1=>
  some t1

def lJ(s:aQ):List km->Option Bool
  |[]=>
    (rG s.From).bind fun r=>
    (if r then((vv s.Where).bind fun r1=>
    some r1)else some false).bind fun t=>
    (if t then((vv s.Having).bind fun r2=>
    some r2)else some false).bind fun t1=>
    some t1
  |e2::tl2=>
    (nO e2.Name).bind fun r3=>
    (if(!(!r3))then((nF e2.Table).bind fun r4=>
    some (!r4))else some true).bind fun t2=>
    if t2 then
    (some false)
    else
    ((lJ s tl2))

def lK(s:aQ):List nJ->Option Bool
  |[]=>
    lJ s s.Group
  |e1::tl1=>
    (rG e1.Source).bind fun r5=>
    (if(!(!r5))then((mo e1.On).bind fun r6=>
    some (!r6))else some true).bind fun t3=>
    if t3 then
    (some false)
    else
    ((lK s tl1))

def lL(s:aQ):List fQ->Option Bool
  |[]=>
    lK s s.Joins
  |e::tl=>
    (mo e.Tree).bind fun r7=>
    (if(!(!r7))then((nF e.As).bind fun r8=>
    some (!r8))else some true).bind fun t4=>
    if t4 then
    (some false)
    else
    ((lL s tl))

def tt(s:aQ):Option Bool:=
 if((((s.Star !=((s.Items.length:Int)==(0:Int)))||(decide ((6:Int)<(s.Items.length:Int))))||(decide ((2:Int)<(s.Joins.length:Int))))||(decide ((3:Int)<(s.Group.length:Int))))then
 (some false)
 else
 (lL s s.Items)

def pb:List tf->Option Bool
 |[]=>
  some true
 |e1::tl1=>
  (nF e1.Name).bind fun r=>
  if((((!r)||(decide (e1.Number<(0:Int))))||(decide ((2147483647:Int)<e1.Number)))||((!(e1.Name==([])))&&(e1.Number !=(0:Int))))then
  (some false)
  else
  ((pb tl1))

def nd(q:cu):List aQ->Option Bool
 |[]=>
  pb q.Keys
 |e::tl=>
  (tt e).bind fun r1=>
  if(!r1)then
  (some false)
  else
  ((nd q tl))

def we(q:cu):Option Bool:=
 if(((((decide ((q.Selects.length:Int)<(1:Int)))||(decide ((3:Int)<(q.Selects.length:Int))))||(decide ((3:Int)<(q.Keys.length:Int))))||(decide (q.Limit<(-1:Int))))||(decide ((2147483647:Int)<q.Limit)))then
 (some false)
 else
 (nd q q.Selects)

def ql(c:aR)(name:cS):Nat->Int->Option Int
  |0,_=>none
  |n+1,i=>
    if(decide (i<(c.Tables.length:Int)))then
    ((fB c.Tables i).bind fun e=>
    if(e.Name==name)then
    (some i)
    else
    ((ql c name n) (IntKind.i64.wrap (i+(1:Int)))))
    else
    (some (-1:Int))

def sM(c:aR)(name:cS):Option Int:=
 ql c name gi (0:Int)

def pK(s:ef):Option cS:=
 if(!(s.As==([])))then
 (some s.As)
 else
 (some s.Table)

def gZ(b:aA)(s:ef)(r:Int):List ef->Option (Int×aA)
 |[]=>
  (oI b.sources ([s])).bind fun l=>
  (oI b.out.Tables ([r])).bind fun l1=>
  some ((0:Int),({({b with sources:=l}:aA)with out:=({({b with sources:=l}:aA).out with Tables:=l1}:aL)}:aA))
 |e::tl=>
  (pK e).bind fun r1=>
  (pK s).bind fun r2=>
  if(r1==r2)then
  (some ((221:Int),b))
  else
  ((gZ b s r tl))

def jI(b:aA)(s:ef):Option (Int×aA):=
 (sM b.c s.Table).bind fun r=>
 if(decide (r<(0:Int)))then
 (some ((220:Int),b))
 else
 (gZ b s r b.sources)

def o7(nx:(List Int)->Option (List Int)):List cd->(List Int)->Option (List Int)
 |[],out1=>
  nx out1
 |e2::tl1,out1=>
  (oI out1 ([e2.Kind])).bind fun out2=>
  (o7 nx tl1) out2

def lW(c:aR):List Int->(List Int)->Option (List Int)
 |[],out=>
  some out
 |e::tl,out=>
  (fB c.Tables e).bind fun e1=>
  o7 (lW c tl) e1.Columns out

def jV(c:aR)(tables:(List Int)):Option (List Int):=
 lW c tables ([]:List Int)

def oh(t:ce)(name:cS):Nat->Int->Option Int
  |0,_=>none
  |n+1,i=>
    if(decide (i<(t.Columns.length:Int)))then
    ((fB t.Columns i).bind fun e=>
    if(e.Name==name)then
    (some i)
    else
    ((oh t name n) (IntKind.i64.wrap (i+(1:Int)))))
    else
    (some (-1:Int))

def uS(t:ce)(name:cS):Option Int:=
 oh t name gi (0:Int)

def g9(nx:Nat->Int->Int->Int->Option (Int×Int))(i:Nat)(first:Int)(e2:ce)(found1:Int)(many1:Int):Option (Int×Int):=
 nx (i+1) found1 many1 (IntKind.i64.wrap (first+(e2.Columns.length:Int)))

def fe(b:aA)(table:cS)(name:cS):List ef->Nat->Int->Int->Int->Option (Int×Int)
  |[],i,found,many,first=>
    if(many==(0:Int))then
    (some ((0:Int),(222:Int)))
    else
    (if(many==(1:Int))then
    (some (found,(0:Int)))
    else
    (some ((0:Int),(223:Int))))
  |e::tl,i,found,many,first=>
    (fB b.out.Tables (i:Int)).bind fun e1=>
    (fB b.c.Tables e1).bind fun e2=>
    (uS e2 name).bind fun r=>
    (if(decide ((0:Int)<=r))then((if(!(table==([])))then((pK e).bind fun r1=>
    some (table==r1))else some true).bind fun t1=>
    some t1)else some false).bind fun t=>
    if t then
    (g9 (fe b table name tl) i first e2 (IntKind.i64.wrap (first+r)) (IntKind.i64.wrap (many+(1:Int))))
    else
    (g9 (fe b table name tl) i first e2 found many)

def jJ(b:aA)(table:cS)(name:cS):Option (Int×Int):=
 fe b table name b.sources 0 (0:Int) (0:Int) (0:Int)

def qn(nx1:aW->Option aW)(out1:aW)(n1:aC):Option aW:=
 (oI out1.Nodes ([n1])).bind fun l5=>
 nx1 ({out1 with Nodes:=l5}:aW)

def tp(out:aW)(nx1:aW->Option aW)(out1:aW)(n:aC):Option aW:=
 if(decide ((0:Int)<=n.R))then
 (qn nx1 out1 (aC.mk n.Tag n.L (IntKind.i64.wrap (n.R+(out.Nodes.length:Int))) n.Col n.Value))
 else
 (qn nx1 out1 n)

def eU(nx:Nat->aC->aW->Option aW)(i:Nat)(root1:aC)(out:aW):List aC->aW->Option aW
 |[],out1=>
  if((i:Int)==(0:Int))then
  (nx (i+1) (aC.mk root1.Tag (IntKind.i64.wrap ((out1.Nodes.length:Int)-(1:Int))) root1.R root1.Col root1.Value) out1)
  else
  (nx (i+1) (aC.mk root1.Tag root1.L (IntKind.i64.wrap ((out1.Nodes.length:Int)-(1:Int))) root1.Col root1.Value) out1)
 |e1::tl1,out1=>
  if(decide ((0:Int)<=e1.L))then
  (tp out (eU nx i root1 out tl1) out1 (aC.mk e1.Tag (IntKind.i64.wrap (e1.L+(out.Nodes.length:Int))) e1.R e1.Col e1.Value))
  else
  (tp out (eU nx i root1 out tl1) out1 e1)

def iD:List aW->Nat->aC->aW->Option aW
 |[],i,root1,out=>
  (oI out.Nodes ([root1])).bind fun l2=>
  some ({out with Nodes:=l2}:aW)
 |e::tl,i,root1,out=>
  eU (iD tl) i root1 out e.Nodes out

def gA(root:aC)(l:(List aW)):Option aW:=
 iD l 0 (aC.mk root.Tag (-1:Int) (-1:Int) root.Col root.Value) ({(⟨[]⟩:aW)with Nodes:=([]:List aC)}:aW)

def wd(tag:Int):Option Int:=
  if((tag==(3:Int))||((decide ((8:Int)<=tag))&&(decide (tag<=(11:Int)))))then
  (some (-1:Int))
  else
  ((tU tag).bind fun r=>
  some r)

def ju(n:aC):Option Bool:=
  if(n.Tag==(1:Int))then
  ((tX n.Value).bind fun r=>
  some (r&&(n.Col==(0:Int))))
  else
  (if(n.Tag==(2:Int))then
  (some (((decide (n.Value=(⟨(0:Int),(0:Int),(0:Int),[]⟩:cJ)))&&(decide ((0:Int)<=n.Col)))&&(decide (n.Col<(16:Int)))))
  else
  (some ((decide (n.Value=(⟨(0:Int),(0:Int),(0:Int),[]⟩:cJ)))&&(n.Col==(0:Int)))))

def jt:Nat->aW->Int->Option Int
  |0,_,_=>none
  |fu+1,e,place=>
    if((decide (place<(0:Int)))||(decide ((e.Nodes.length:Int)<=place)))then
    (some (0:Int))
    else
    ((fB e.Nodes place).bind fun e1=>
    (wd e1.Tag).bind fun r=>
    (if(!(decide (r<(0:Int))))then((ju e1).bind fun r1=>
    some (!r1))else some true).bind fun t=>
    if t then
    (some (0:Int))
    else
    (if(r==(0:Int))then
    (if((e1.L !=(-1:Int))||(e1.R !=(-1:Int)))then
    (some (0:Int))
    else
    (some (1:Int)))
    else
    (((jt fu) e (IntKind.i64.wrap (place-(1:Int)))).bind fun r2=>
    if(r2==(0:Int))then
    (some (0:Int))
    else
    (if(r==(1:Int))then
    (if((e1.L !=(IntKind.i64.wrap (place-(1:Int))))||(e1.R !=(-1:Int)))then
    (some (0:Int))
    else
    (some (IntKind.i64.wrap (r2+(1:Int)))))
    else
    (((jt fu) e (IntKind.i64.wrap ((IntKind.i64.wrap (place-(1:Int)))-r2))).bind fun r3=>
    if(((r3==(0:Int))||(e1.R !=(IntKind.i64.wrap (place-(1:Int)))))||(e1.L !=(IntKind.i64.wrap ((IntKind.i64.wrap (place-(1:Int)))-r2))))then
    (some (0:Int))
    else
    (some (IntKind.i64.wrap ((IntKind.i64.wrap (r3+r2))+(1:Int)))))))))

def BG(e:aW)(place:Int):Option Int:=
 jt gi e place

def wc(e:aW):Option Bool:=
  (if((decide ((1:Int)<=(e.Nodes.length:Int)))&&(decide ((e.Nodes.length:Int)<=(1000:Int))))then((BG e (IntKind.i64.wrap ((e.Nodes.length:Int)-(1:Int)))).bind fun r=>
  some (r==(e.Nodes.length:Int)))else some false).bind fun t=>
  some t

def qQ(k:Int)(want:Int):Option Bool:=
 some ((k==want)||(k==(0:Int)))

def sN(tag:Int)(l:Int)(r:Int):Option (Int×Bool):=
  if((tag==(4:Int))||((decide ((12:Int)<=tag))&&(decide (tag<=(15:Int)))))then
  ((qQ l (2:Int)).bind fun r1=>
  (if r1 then((qQ r (2:Int)).bind fun r2=>
  some r2)else some false).bind fun t=>
  some ((2:Int),t))
  else
  (if((tag==(5:Int))||(decide ((22:Int)<=tag)))then
  ((qQ l (1:Int)).bind fun r3=>
  (if r3 then((qQ r (1:Int)).bind fun r4=>
  some r4)else some false).bind fun t1=>
  some ((1:Int),t1))
  else
  (if((tag==(6:Int))||(tag==(7:Int)))then
  (some ((1:Int),true))
  else
  (some ((1:Int),(((l==r)||(l==(0:Int)))||(r==(0:Int)))))))

def qp(nx2:(List Int)->Option (Int×Int))(e3:aC)(own:List Int)(e6:Int)(r1:Int):Option (Int×Int):=
  (sN e3.Tag e6 r1).bind fun r2=>
  if(!r2.2)then
  (some ((0:Int),(201:Int)))
  else
  ((oI own ([r2.1])).bind fun own3=>
  nx2 own3)

def dU(kinds:(List Int)):List aC->(List Int)->Option (Int×Int)
  |[],own=>
    (fB own (IntKind.i64.wrap ((own.length:Int)-(1:Int)))).bind fun e4=>
    some (e4,(0:Int))
  |e3::tl2,own=>
    if(e3.Tag==(1:Int))then
    ((oI own ([e3.Value.Kind])).bind fun own1=>
    (dU kinds tl2) own1)
    else
    (if(e3.Tag==(2:Int))then
    ((fB kinds e3.Col).bind fun e5=>
    (oI own ([e5])).bind fun own2=>
    (dU kinds tl2) own2)
    else
    ((fB own e3.L).bind fun e6=>
    if(decide ((0:Int)<=e3.R))then
    ((fB own e3.R).bind fun e7=>
    qp (dU kinds tl2) e3 own e6 e7)
    else
    (qp (dU kinds tl2) e3 own e6 (0:Int))))

def oy(e:aW)(kinds:(List Int)):List aC->Option (Int×Int)
 |[]=>
  dU kinds e.Nodes ([]:List Int)
 |e2::tl1=>
  if((e2.Tag==(2:Int))&&(decide ((kinds.length:Int)<=e2.Col)))then
  (some ((0:Int),(2:Int)))
  else
  ((oy e kinds tl1))

def qo(e:aW)(kinds:(List Int)):List Int->Option (Int×Int)
 |[]=>
  oy e kinds e.Nodes
 |e1::tl=>
  if((decide (e1<(0:Int)))||(decide ((3:Int)<e1)))then
  (some ((0:Int),(2:Int)))
  else
  ((qo e kinds tl))

def qR(e:aW)(kinds:(List Int)):Option (Int×Int):=
 (wc e).bind fun r=>
 if(!r)then
 (some ((0:Int),(200:Int)))
 else
 (qo e kinds kinds)

def qk(a1:f9)(kinds:(List Int)):Option (Int×Bool):=
  if(a1.Tag==(1:Int))then
  (some ((2:Int),true))
  else
  ((qR a1.Arg kinds).bind fun r=>
  if((r.2 !=(0:Int))||(((a1.Tag==(3:Int))&&(r.1 !=(2:Int)))&&(r.1 !=(0:Int))))then
  (some ((0:Int),false))
  else
  (if((a1.Tag==(2:Int))||(a1.Tag==(3:Int)))then
  (some ((2:Int),true))
  else
  (some (r.1,true))))

def jK(r:(List Int)):List f9->(List Int)->Option (List Int)
 |[],out1=>
  some out1
 |e1::tl1,out1=>
  (qk e1 r).bind fun r1=>
  (oI out1 ([r1.1])).bind fun out2=>
  (jK r tl1) out2

def jL(s:aL)(r:(List Int)):List Int->(List Int)->Option (List Int)
 |[],out=>
  jK r s.Aggs out
 |e::tl,out=>
  (fB r e).bind fun e2=>
  (oI out ([e2])).bind fun out3=>
  (jL s r tl) out3

def ja(c:aR)(s:aL):Option (List Int):=
 (jV c s.Tables).bind fun r=>
 jL s r s.Keys ([]:List Int)

def k9(tag:Int):Option Bool:=
 some ((tag==(3:Int))||((decide ((8:Int)<=tag))&&(decide (tag<=(11:Int)))))

def qm(b:aW):List aC->Nat->Option Bool
 |[],i=>
  some true
 |e::tl,i=>
  (fB b.Nodes (i:Int)).bind fun e1=>
  if(!decide (e=e1))then
  (some false)
  else
  ((qm b tl) (i+1))

def lX(a1:aW)(b:aW):Option Bool:=
 if((a1.Nodes.length:Int) !=(b.Nodes.length:Int))then
 (some false)
 else
 (qm b a1.Nodes 0)

def li(at1:Int)(ob:aA):Option (aW×Int×aA):=
  if(decide ((12:Int)<(ob.out.Aggs.length:Int)))then
  (some ((⟨[]⟩:aW),(228:Int),ob))
  else
  ((gA (⟨(2:Int),(0:Int),(0:Int),(IntKind.i64.wrap ((ob.out.Keys.length:Int)+at1)),(⟨(0:Int),(0:Int),(0:Int),[]⟩:cJ)⟩:aC) ([])).bind fun r2=>
  some (r2,(0:Int),ob))

def fy(b:aA)(a1:f9):List f9->Nat->Int->Option (aW×Int×aA)
  |[],i,at1=>
    if(at1==(b.out.Aggs.length:Int))then
    ((oI b.out.Aggs ([a1])).bind fun l6=>
    li at1 ({b with out:=({b.out with Aggs:=l6}:aL)}:aA))
    else
    (li at1 b)
  |e::tl,i,at1=>
    (if(e.Tag==a1.Tag)then((lX e.Arg a1.Arg).bind fun r3=>
    some r3)else some false).bind fun t=>
    if t then
    ((fy b a1 tl) (i+1) (i:Int))
    else
    ((fy b a1 tl) (i+1) at1)

def na(b:aA)(a1:f9):Option (aW×Int×aA):=
 (jV b.c b.out.Tables).bind fun r=>
 (qk a1 r).bind fun r1=>
 if(!r1.2)then
 (some ((⟨[]⟩:aW),(201:Int),b))
 else
 (fy b a1 b.out.Aggs 0 (b.out.Aggs.length:Int))

def uR(tag:Int):Option Int:=
  if(tag==(3:Int))then
  (some (1:Int))
  else
  (if(tag==(8:Int))then
  (some (2:Int))
  else
  (if(tag==(9:Int))then
  (some (3:Int))
  else
  (if(tag==(10:Int))then
  (some (4:Int))
  else
  (some (5:Int)))))

def gP(b:aA)(r1:Int×Int)(at1:Int)(x:aW):Option (aW×Int×aA):=
 (gA (⟨(2:Int),(0:Int),(0:Int),at1,(⟨(0:Int),(0:Int),(0:Int),[]⟩:cJ)⟩:aC) ([])).bind fun r2=>
 some (r2,r1.2,b)

def dP(b:aA)(r1:Int×Int):Nat->Int->Int->Option (aW×Int×aA)
  |0,_,_=>none
  |n+1,own,i1=>
    if(decide ((0:Int)<=i1))then
    ((fB b.out.Keys i1).bind fun e1=>
    if(e1==r1.1)then
    ((dP b r1 n) i1 (IntKind.i64.wrap (i1-(1:Int))))
    else
    ((dP b r1 n) own (IntKind.i64.wrap (i1-(1:Int)))))
    else
    (if(decide (own<(0:Int)))then
    (some ((⟨[]⟩:aW),(225:Int),b))
    else
    (gP b r1 own (⟨[]⟩:aW)))

def gO(e:dl)(arg:aW)(ob:aA)(e3:Int):Option (aW×Int×aA):=
  if(e3 !=(0:Int))then
  (some ((⟨[]⟩:aW),e3,ob))
  else
  ((uR e.Tag).bind fun r4=>
  (na ob (⟨r4,arg⟩:f9)).bind fun r5=>
  some (r5.1,r5.2.1,r5.2.2))

def iY(group:Bool)(e:dl)(e2:Int)(arg:aW)(ob:aA):Option (aW×Int×aA):=
 if((e2==(0:Int))&&(!group))then
 (gO e arg ob (224:Int))
 else
 (gO e arg ob e2)

def mE(out:aW)(ob1:aA)(kinds:(List Int)):Option (aW×Int×aA):=
 (qR out kinds).bind fun r10=>
 some (out,r10.2,ob1)

def iX(group:Bool)(x1:aW)(out:aW)(ob1:aA):Option (aW×Int×aA):=
  (jV ob1.c ob1.out.Tables).bind fun r9=>
  if group then
  ((ja ob1.c ob1.out).bind fun r11=>
  mE out ob1 r11)
  else
  (mE out ob1 r9)

def cB:Nat->aA->dj->Int->Bool->Option (aW×Int×aA)
  |0,_,_,_,_=>none
  |fu+1,b,t,place,group=>
    (fB t.Nodes place).bind fun e=>
    if(e.Tag==(1:Int))then
    ((gA (⟨(1:Int),(0:Int),(0:Int),(0:Int),e.Value⟩:aC) ([])).bind fun r=>
    some (r,(0:Int),b))
    else
    (if(e.Tag==(2:Int))then
    ((jJ b e.Table e.Name).bind fun r1=>
    if((r1.2==(0:Int))&&group)then
    (dP b r1 gi (-1:Int) (IntKind.i64.wrap ((b.out.Keys.length:Int)-(1:Int))))
    else
    (gP b r1 r1.1 (⟨[]⟩:aW)))
    else
    ((k9 e.Tag).bind fun r3=>
    if r3 then
    (if(decide ((0:Int)<=e.L))then
    (((cB fu) b t e.L false).bind fun r6=>
    iY group e r6.2.1 r6.1 r6.2.2)
    else
    (iY group e (0:Int) (⟨[]⟩:aW) b))
    else
    (((cB fu) b t e.L group).bind fun r7=>
    if(r7.2.1 !=(0:Int))then
    (some ((⟨[]⟩:aW),r7.2.1,r7.2.2))
    else
    ((gA (⟨e.Tag,(0:Int),(0:Int),(0:Int),(⟨(0:Int),(0:Int),(0:Int),[]⟩:cJ)⟩:aC) ([r7.1])).bind fun r8=>
    if(decide ((0:Int)<=e.R))then
    (((cB fu) r7.2.2 t e.R group).bind fun r12=>
    if(r12.2.1 !=(0:Int))then
    (some ((⟨[]⟩:aW),r12.2.1,r12.2.2))
    else
    ((gA (⟨e.Tag,(0:Int),(0:Int),(0:Int),(⟨(0:Int),(0:Int),(0:Int),[]⟩:cJ)⟩:aC) ([r7.1,r12.1])).bind fun r13=>
    iX group (⟨[]⟩:aW) r13 r12.2.2))
    else
    (iX group (⟨[]⟩:aW) r8 r7.2.2)))))

def rE(b:aA)(t:dj)(place:Int)(group:Bool):Option (aW×Int×aA):=
 cB gi b t place group

def kf(b:aA)(t:dj)(group:Bool):Option (aW×Int×aA):=
 (rE b t (IntKind.i64.wrap ((t.Nodes.length:Int)-(1:Int))) group).bind fun r=>
 if(r.2.1 !=(0:Int))then
 (some ((⟨[]⟩:aW),r.2.1,r.2.2))
 else
 (some (r.1,(0:Int),r.2.2))

def gy(r:aW×Int×aA)(kinds:(List Int)):Option (aW×Int×aA):=
 (qR r.1 kinds).bind fun r2=>
 if((r2.1 !=(1:Int))&&(r2.1 !=(0:Int)))then
 (some ((⟨[]⟩:aW),(226:Int),r.2.2))
 else
 (some (r.1,(0:Int),r.2.2))

def iO(b:aA)(t:dj)(group:Bool):Option (aW×Int×aA):=
  (kf b t group).bind fun r=>
  if(r.2.1 !=(0:Int))then
  (some (r.1,r.2.1,r.2.2))
  else
  ((jV r.2.2.c r.2.2.out.Tables).bind fun r1=>
  if group then
  ((ja r.2.2.c r.2.2.out).bind fun r3=>
  gy r r3)
  else
  (gy r r1))

def iZ:List km->aA->Option (Int×Int×aA)
  |[],ob2=>
    some ((0:Int),(0:Int),ob2)
  |e1::tl1,ob2=>
    (jJ ob2 e1.Table e1.Name).bind fun r1=>
    if(r1.2 !=(0:Int))then
    (some ((3:Int),r1.2,ob2))
    else
    ((oI ob2.out.Keys ([r1.1])).bind fun l18=>
    (iZ tl1) ({ob2 with out:=({ob2.out with Keys:=l18}:aL)}:aA))

def o6(s:aQ)(ob1:aA):Option (Int×Int×aA):=
 iZ s.Group ob1

def dy(s:aQ):List nJ->aA->Option (Int×Int×aA)
  |[],ob=>
    if(decide ((0:Int)<(s.Where.Nodes.length:Int)))then
    ((iO ob s.Where false).bind fun r2=>
    if(r2.2.1 !=(0:Int))then
    (some ((2:Int),r2.2.1,r2.2.2))
    else
    (o6 s ({r2.2.2 with out:=({r2.2.2.out with Where:=r2.1}:aL)}:aA)))
    else
    (o6 s ob)
  |e::tl,ob=>
    (jI ob e.Source).bind fun r3=>
    if(r3.1 !=(0:Int))then
    (some ((1:Int),r3.1,r3.2))
    else
    ((iO r3.2 e.On false).bind fun r4=>
    if(r4.2.1 !=(0:Int))then
    (some ((1:Int),r4.2.1,r4.2.2))
    else
    ((oI r4.2.2.out.Joins ([(⟨e.Left,r4.1⟩:ew)])).bind fun l20=>
    (dy s tl) ({r4.2.2 with out:=({r4.2.2.out with Joins:=l20}:aL)}:aA)))

def oO(b:aA)(s:aQ):Option (Int×Int×aA):=
 (jI b s.From).bind fun r=>
 if(r.1 !=(0:Int))then
 (some ((0:Int),r.1,r.2))
 else
 (dy s s.Joins r.2)

def rD:List dl->Option Bool
 |[]=>
  some false
 |e::tl=>
  (k9 e.Tag).bind fun r=>
  if r then
  (some true)
  else
  ((rD tl))

def DP(t:dj):Option Bool:=
 rD t.Nodes

def lI:List fQ->Bool->Option Bool
  |[],out=>
    some out
  |e::tl,out=>
    (if(!out)then((DP e.Tree).bind fun r=>
    some r)else some true).bind fun t=>
    (lI tl) t

def tm(s:aQ):Option Bool:=
 lI s.Items ((decide ((0:Int)<(s.Group.length:Int)))||(decide ((0:Int)<(s.Having.Nodes.length:Int))))

def oG(ob2:aA):Option (Int×Int×aA):=
 some ((0:Int),(0:Int),ob2)

def dB(s:aQ):List fQ->aA->Option (Int×Int×aA)
  |[],ob1=>
    if(decide ((0:Int)<(s.Having.Nodes.length:Int)))then
    ((iO ob1 s.Having true).bind fun r1=>
    if(r1.2.1 !=(0:Int))then
    (some ((5:Int),r1.2.1,r1.2.2))
    else
    (oG ({r1.2.2 with out:=({r1.2.2.out with Having:=r1.1}:aL)}:aA)))
    else
    (oG ob1)
  |e::tl,ob1=>
    (kf ob1 e.Tree ob1.out.Grouped).bind fun r2=>
    if(r2.2.1 !=(0:Int))then
    (some ((4:Int),r2.2.1,r2.2.2))
    else
    ((oI r2.2.2.out.Items ([r2.1])).bind fun l18=>
    (dB s tl) ({r2.2.2 with out:=({r2.2.2.out with Items:=l18}:aL)}:aA))

def gz(s:aQ)(ob:aA):Option (Int×Int×aA):=
 dB s s.Items ob

def j7(s:aQ):List Int->Nat->aA->Option (Int×Int×aA)
 |[],i5,ob3=>
  gz s ob3
 |e1::tl1,i5,ob3=>
  (gA (⟨(2:Int),(0:Int),(0:Int),(i5:Int),(⟨(0:Int),(0:Int),(0:Int),[]⟩:cJ)⟩:aC) ([])).bind fun r4=>
  (oI ob3.out.Items ([r4])).bind fun l25=>
  (j7 s tl1) (i5+1) ({ob3 with out:=({ob3.out with Items:=l25}:aL)}:aA)

def ke(b:aA)(s:aQ):Option (Int×Int×aA):=
  (tm s).bind fun r=>
  if s.Star then
  (if((({({b with out:=({b.out with Grouped:=r}:aL)}:aA)with out:=({({b with out:=({b.out with Grouped:=r}:aL)}:aA).out with Distinct:=s.Distinct}:aL)}:aA).out).Grouped)then
  (some ((4:Int),(227:Int),({({b with out:=({b.out with Grouped:=r}:aL)}:aA)with out:=({({b with out:=({b.out with Grouped:=r}:aL)}:aA).out with Distinct:=s.Distinct}:aL)}:aA)))
  else
  ((jV (({({b with out:=({b.out with Grouped:=r}:aL)}:aA)with out:=({({b with out:=({b.out with Grouped:=r}:aL)}:aA).out with Distinct:=s.Distinct}:aL)}:aA).c) b.out.Tables).bind fun r3=>
  j7 s r3 0 ({({b with out:=({b.out with Grouped:=r}:aL)}:aA)with out:=({({b with out:=({b.out with Grouped:=r}:aL)}:aA).out with Distinct:=s.Distinct}:aL)}:aA)))
  else
  (gz s ({({b with out:=({b.out with Grouped:=r}:aL)}:aA)with out:=({({b with out:=({b.out with Grouped:=r}:aL)}:aA).out with Distinct:=s.Distinct}:aL)}:aA))

def kg(kinds:(List Int)):List aW->(List Int)->Option (List Int)
 |[],out=>
  some out
 |e::tl,out=>
  (qR e kinds).bind fun r1=>
  (oI out ([r1.1])).bind fun out1=>
  (kg kinds tl) out1

def nN(s:aL)(kinds:(List Int)):Option (List Int):=
 kg kinds s.Items ([]:List Int)

def oe(c:aR)(s:aL):Option (List Int):=
  (jV c s.Tables).bind fun r=>
  if s.Grouped then
  ((ja c s).bind fun r2=>
  nN s r2)
  else
  (nN s r)

def rC(nx:(List cS)->Option (List cS))(out1:List cS)(own:cS):Option (List cS):=
 (oI out1 ([own])).bind fun out2=>
 nx out2

def kC:List fQ->(List cS)->Option (List cS)
 |[],out1=>
  some out1
 |e::tl,out1=>
  (fB e.Tree.Nodes (IntKind.i64.wrap ((e.Tree.Nodes.length:Int)-(1:Int)))).bind fun e1=>
  if((e.As==([]))&&(e1.Tag==(2:Int)))then
  (rC (kC tl) out1 e1.Name)
  else
  (rC (kC tl) out1 e.As)

def o5(s:aQ)(out:List cS):Option (List cS):=
 kC s.Items out

def m9(nx1:(List cS)->Option (List cS)):List cd->(List cS)->Option (List cS)
 |[],out4=>
  nx1 out4
 |e4::tl2,out4=>
  (oI out4 ([e4.Name])).bind fun out5=>
  (m9 nx1 tl2) out5

def lV(c:aR)(s:aQ):List Int->(List cS)->Option (List cS)
 |[],out3=>
  o5 s out3
 |e2::tl1,out3=>
  (fB c.Tables e2).bind fun e3=>
  m9 (lV c s tl1) e3.Columns out3

def tS(c:aR)(s:aQ)(tables:(List Int)):Option (List cS):=
 if s.Star then
 (lV c s tables ([]:List cS))
 else
 (o5 s ([]:List cS))

def qC(b:(List Int))(nx:Nat->(List Int)->Option ((List Int)×Bool))(i:Nat)(out:List Int)(k:Int):Option ((List Int)×Bool):=
  (fB b (i:Int)).bind fun e1=>
  if((e1 !=(0:Int))&&(e1 !=k))then
  (some ([],false))
  else
  ((oI out ([k])).bind fun out1=>
  nx (i+1) out1)

def jU(b:(List Int)):List Int->Nat->(List Int)->Option ((List Int)×Bool)
  |[],i,out=>
    some (out,true)
  |e::tl,i,out=>
    if(e==(0:Int))then
    ((fB b (i:Int)).bind fun e2=>
    qC b (jU b tl) i out e2)
    else
    (qC b (jU b tl) i out e)

def rA(a1:(List Int))(b:(List Int)):Option ((List Int)×Bool):=
 if((a1.length:Int) !=(b.length:Int))then
 (some ([],false))
 else
 (jU b a1 0 ([]:List Int))

def fc(k:tf):List cS->Nat->Int->Int->Option (Int×Int)
  |[],i,found,many=>
    if(many==(0:Int))then
    (some ((0:Int),(222:Int)))
    else
    (if(many==(1:Int))then
    (some (found,(0:Int)))
    else
    (some ((0:Int),(223:Int))))
  |e::tl,i,found,many=>
    if(e==k.Name)then
    ((fc k tl) (i+1) (i:Int) (IntKind.i64.wrap (many+(1:Int))))
    else
    ((fc k tl) (i+1) found many)

def Ae(k:tf)(names:(List cS)):Option (Int×Int):=
  if(k.Name==([]))then
  (if((decide (k.Number<(1:Int)))||(decide ((names.length:Int)<k.Number)))then
  (some ((0:Int),(222:Int)))
  else
  (some ((IntKind.i64.wrap (k.Number-(1:Int))),(0:Int))))
  else
  (fc k names 0 (0:Int) (0:Int))

def qi:List tf->bu->bu->Option (bu×Int×Int)
  |[],x1,out1=>
    some (out1,(0:Int),(0:Int))
  |e1::tl1,x1,out1=>
    (Ae e1 out1.Names).bind fun r2=>
    if(r2.2 !=(0:Int))then
    (some ((⟨[],[],[],[],(0:Int)⟩:bu),(90:Int),r2.2))
    else
    ((oI out1.Order ([(⟨r2.1,e1.Desc⟩:vR)])).bind fun l4=>
    (qi tl1) x1 ({out1 with Order:=l4}:bu))

def qj(nx:Nat->bu->bu->Option (bu×Int×Int))(i:Nat)(out:bu)(ob:aA)(x2:bu)(out2:bu):Option (bu×Int×Int):=
 (oI out2.Selects ([ob.out])).bind fun l14=>
 nx (i+1) x2 ({out2 with Selects:=l14}:bu)

def mN(c:aR)(nx:Nat->bu->bu->Option (bu×Int×Int))(i:Nat)(e:aQ)(x:bu)(out:bu)(at1:Int)(e2:Int)(ob:aA):Option (bu×Int×Int):=
  if(e2 !=(0:Int))then
  (some ((⟨[],[],[],[],(0:Int)⟩:bu),(IntKind.i64.wrap ((IntKind.i64.wrap ((10:Int)*(i:Int)))+at1)),e2))
  else
  ((oe c ob.out).bind fun r4=>
  if((i:Int)==(0:Int))then
  ((tS c e ob.out.Tables).bind fun r5=>
  qj nx i out ob x ({({({({out with Names:=r5}:bu)with Kinds:=r4}:bu)with Selects:=out.Selects}:bu)with Order:=out.Order}:bu))
  else
  ((rA out.Kinds r4).bind fun r6=>
  if(!r6.2)then
  (some ((⟨[],[],[],[],(0:Int)⟩:bu),(IntKind.i64.wrap ((IntKind.i64.wrap ((10:Int)*(i:Int)))+(6:Int))),(229:Int)))
  else
  (qj nx i out ob x ({({({out with Kinds:=r6.1}:bu)with Selects:=out.Selects}:bu)with Order:=out.Order}:bu))))

def iC(c:aR)(q:cu):List aQ->Nat->bu->bu->Option (bu×Int×Int)
  |[],i,x,out=>
    qi q.Keys x out
  |e::tl,i,x,out=>
    (oO (⟨c,[],(⟨[],[],(⟨[]⟩:aW),(⟨[]⟩:aW),false,false,[],[],[]⟩:aL)⟩:aA) e).bind fun r3=>
    if(r3.2.1==(0:Int))then
    ((ke r3.2.2 e).bind fun r7=>
    mN c (iC c q tl) i e x out r7.1 r7.2.1 r7.2.2)
    else
    (mN c (iC c q tl) i e x out r3.1 r3.2.1 r3.2.2)

def vu(c:aR)(q:cu):Option (bu×Int×Int):=
  (wb c).bind fun r=>
  if(!r)then
  (some ((⟨[],[],[],[],(0:Int)⟩:bu),(0:Int),(210:Int)))
  else
  ((we q).bind fun r1=>
  if(!r1)then
  (some ((⟨[],[],[],[],(0:Int)⟩:bu),(0:Int),(180:Int)))
  else
  (iC c q q.Selects 0 (⟨[],[],[],[],(0:Int)⟩:bu) ({({(⟨[],[],[],[],q.Limit⟩:bu)with Selects:=([]:List aL)}:bu)with Order:=([]:List vR)}:bu)))

def oN(b:(List Int)):List Int->Nat->Option Bool
 |[],i=>
  some true
 |e::tl,i=>
  (fB b (i:Int)).bind fun e1=>
  if(e !=e1)then
  (some false)
  else
  ((oN b tl) (i+1))

def m8(a1:(List Int))(b:(List Int)):Option Bool:=
 if((a1.length:Int) !=(b.length:Int))then
 (some false)
 else
 (oN b a1 0)

def pM(b:(List aW)):List aW->Nat->Option Bool
 |[],i=>
  some true
 |e::tl,i=>
  (fB b (i:Int)).bind fun e1=>
  (lX e e1).bind fun r=>
  if(!r)then
  (some false)
  else
  ((pM b tl) (i+1))

def tn(a1:(List aW))(b:(List aW)):Option Bool:=
 if((a1.length:Int) !=(b.length:Int))then
 (some false)
 else
 (pM b a1 0)

def io(a1:aL)(b:aL):List f9->Nat->Option Bool
  |[],i1=>
    (m8 a1.Tables b.Tables).bind fun r=>
    (if r then((m8 a1.Keys b.Keys).bind fun r1=>
    some r1)else some false).bind fun t=>
    (if t then((lX a1.Where b.Where).bind fun r2=>
    some r2)else some false).bind fun t1=>
    (if t1 then((lX a1.Having b.Having).bind fun r3=>
    some r3)else some false).bind fun t2=>
    (if t2 then((tn a1.Items b.Items).bind fun r4=>
    some r4)else some false).bind fun t3=>
    some t3
  |e1::tl1,i1=>
    (fB b.Aggs (i1:Int)).bind fun e2=>
    (if(!(e1.Tag !=e2.Tag))then((lX e1.Arg e2.Arg).bind fun r5=>
    some (!r5))else some true).bind fun t4=>
    if t4 then
    (some false)
    else
    ((io a1 b tl1) (i1+1))

def jH(a1:aL)(b:aL):List ew->Nat->Option Bool
  |[],i=>
    io a1 b a1.Aggs 0
  |e::tl,i=>
    (fB b.Joins (i:Int)).bind fun e3=>
    (if(!(e.Left !=e3.Left))then((lX e.On e3.On).bind fun r6=>
    some (!r6))else some true).bind fun t5=>
    if t5 then
    (some false)
    else
    ((jH a1 b tl) (i+1))

def pJ(a1:aL)(b:aL):Option Bool:=
 if((((a1.Grouped !=b.Grouped)||(a1.Distinct !=b.Distinct))||((a1.Joins.length:Int) !=(b.Joins.length:Int)))||((a1.Aggs.length:Int) !=(b.Aggs.length:Int)))then
 (some false)
 else
 (jH a1 b a1.Joins 0)

def ou(b:bu):List vR->Nat->Option Bool
 |[],i2=>
  some true
 |e2::tl2,i2=>
  (fB b.Order (i2:Int)).bind fun e3=>
  if(!decide (e2=e3))then
  (some false)
  else
  ((ou b tl2) (i2+1))

def ow(a1:bu)(b:bu):List cS->Nat->Option Bool
 |[],i1=>
  ou b a1.Order 0
 |e1::tl1,i1=>
  (fB b.Names (i1:Int)).bind fun e4=>
  if(!(e1==e4))then
  (some false)
  else
  ((ow a1 b tl1) (i1+1))

def qh(a1:bu)(b:bu):List aL->Nat->Option Bool
 |[],i=>
  ow a1 b a1.Names 0
 |e::tl,i=>
  (fB b.Selects (i:Int)).bind fun e5=>
  (pJ e e5).bind fun r1=>
  if(!r1)then
  (some false)
  else
  ((qh a1 b tl) (i+1))

def xR(a1:bu)(b:bu):Option Bool:=
  (if(!((((a1.Limit !=b.Limit)||((a1.Selects.length:Int) !=(b.Selects.length:Int)))||((a1.Names.length:Int) !=(b.Names.length:Int)))||((a1.Order.length:Int) !=(b.Order.length:Int))))then((m8 a1.Kinds b.Kinds).bind fun r=>
  some (!r))else some true).bind fun t=>
  if t then
  (some false)
  else
  (qh a1 b a1.Selects 0)

def mS(nx:(List Int)->Option (List Int)):List cd->(List Int)->Option (List Int)
 |[],out1=>
  nx out1
 |e2::tl1,out1=>
  (oI out1 ([e2.Kind])).bind fun out2=>
  (mS nx tl1) out2

def lG(c:aR):List Int->(List Int)->Option (List Int)
 |[],out=>
  some out
 |e::tl,out=>
  (fB c.Tables e).bind fun e1=>
  mS (lG c tl) e1.Columns out

def BU(c:aR)(tables:(List Int)):Option (List Int):=
 lG c tables ([]:List Int)

def jg(p:ew)(y:ew):Option Bool:=
  (if(p.Left==y.Left)then((mt p.On y.On).bind fun r=>
  some r)else some false).bind fun t=>
  some t

def jf(p:f9)(y:f9):Option Bool:=
  (if(p.Tag==y.Tag)then((mt p.Arg y.Arg).bind fun r=>
  some r)else some false).bind fun t=>
  some t

def iu(s2:(List cS)):List cS->Nat->Option Bool
 |[],i=>
  some true
 |e::tl,i=>
  (fB s2 (i:Int)).bind fun e1=>
  if(!(e==e1))then
  (some false)
  else
  ((iu s2 tl) (i+1))

def jq(s1:(List cS))(s2:(List cS)):Option Bool:=
 if((s1.length:Int) !=(s2.length:Int))then
 (some false)
 else
 (iu s2 s1 0)

def kN(s2:(List Int)):List Int->Nat->Option Bool
 |[],i=>
  some true
 |e::tl,i=>
  (fB s2 (i:Int)).bind fun e1=>
  if(e !=e1)then
  (some false)
  else
  ((kN s2 tl) (i+1))

def iU(s1:(List Int))(s2:(List Int)):Option Bool:=
 if((s1.length:Int) !=(s2.length:Int))then
 (some false)
 else
 (kN s2 s1 0)

def gI(s2:(List vR)):List vR->Nat->Option Bool
 |[],i=>
  some true
 |e::tl,i=>
  (fB s2 (i:Int)).bind fun e1=>
  if(!decide (e=e1))then
  (some false)
  else
  ((gI s2 tl) (i+1))

def iG(s1:(List vR))(s2:(List vR)):Option Bool:=
 if((s1.length:Int) !=(s2.length:Int))then
 (some false)
 else
 (gI s2 s1 0)

def cL(s2:(List aL))(eq:(aL->aL->Option Bool)):List aL->Nat->Option Bool
 |[],i=>
  some true
 |e::tl,i=>
  (fB s2 (i:Int)).bind fun e1=>
  (eq e e1).bind fun r=>
  if(!r)then
  (some false)
  else
  ((cL s2 eq tl) (i+1))

def cO(s1:(List aL))(s2:(List aL))(eq:(aL->aL->Option Bool)):Option Bool:=
 if((s1.length:Int) !=(s2.length:Int))then
 (some false)
 else
 (cL s2 eq s1 0)

def de(s2:(List ew))(eq:(ew->ew->Option Bool)):List ew->Nat->Option Bool
 |[],i=>
  some true
 |e::tl,i=>
  (fB s2 (i:Int)).bind fun e1=>
  (eq e e1).bind fun r=>
  if(!r)then
  (some false)
  else
  ((de s2 eq tl) (i+1))

def dr(s1:(List ew))(s2:(List ew))(eq:(ew->ew->Option Bool)):Option Bool:=
 if((s1.length:Int) !=(s2.length:Int))then
 (some false)
 else
 (de s2 eq s1 0)

def dD(s2:(List f9))(eq:(f9->f9->Option Bool)):List f9->Nat->Option Bool
 |[],i=>
  some true
 |e::tl,i=>
  (fB s2 (i:Int)).bind fun e1=>
  (eq e e1).bind fun r=>
  if(!r)then
  (some false)
  else
  ((dD s2 eq tl) (i+1))

def dY(s1:(List f9))(s2:(List f9))(eq:(f9->f9->Option Bool)):Option Bool:=
 if((s1.length:Int) !=(s2.length:Int))then
 (some false)
 else
 (dD s2 eq s1 0)

def dv(s2:(List aW))(eq:(aW->aW->Option Bool)):List aW->Nat->Option Bool
 |[],i=>
  some true
 |e::tl,i=>
  (fB s2 (i:Int)).bind fun e1=>
  (eq e e1).bind fun r=>
  if(!r)then
  (some false)
  else
  ((dv s2 eq tl) (i+1))

def dA(s1:(List aW))(s2:(List aW))(eq:(aW->aW->Option Bool)):Option Bool:=
 if((s1.length:Int) !=(s2.length:Int))then
 (some false)
 else
 (dv s2 eq s1 0)

def nI(join:(ew->ew->Option Bool))(agg:(f9->f9->Option Bool))(p:aL)(y:aL):Option Bool:=
  (if((p.Grouped==y.Grouped)&&(p.Distinct==y.Distinct))then((iU p.Tables y.Tables).bind fun r=>
  some r)else some false).bind fun t=>
  (if t then((iU p.Keys y.Keys).bind fun r1=>
  some r1)else some false).bind fun t1=>
  (if t1 then((mt p.Where y.Where).bind fun r2=>
  some r2)else some false).bind fun t2=>
  (if t2 then((mt p.Having y.Having).bind fun r3=>
  some r3)else some false).bind fun t3=>
  (if t3 then((dr p.Joins y.Joins join).bind fun r4=>
  some r4)else some false).bind fun t4=>
  (if t4 then((dY p.Aggs y.Aggs agg).bind fun r5=>
  some r5)else some false).bind fun t5=>
  (if t5 then((dA p.Items y.Items mt).bind fun r6=>
  some r6)else some false).bind fun t6=>
  some t6

def xy(a1:bu)(b:bu):Option Bool:=
  (if(a1.Limit==b.Limit)then((jq a1.Names b.Names).bind fun r=>
  some r)else some false).bind fun t=>
  (if t then((iU a1.Kinds b.Kinds).bind fun r1=>
  some r1)else some false).bind fun t1=>
  (if t1 then((iG a1.Order b.Order).bind fun r2=>
  some r2)else some false).bind fun t2=>
  (if t2 then((cO a1.Selects b.Selects (nI jg jf)).bind fun r3=>
  some r3)else some false).bind fun t3=>
  some t3

def vC(p:aR)(y:cu)(z:cu):Option Bool:=
  (zB).bind fun r=>
  if(!r)then
  (some false)
  else
  ((wn p).bind fun r1=>
  (xn y).bind fun r2=>
  (vu r1 r2).bind fun r3=>
  (xn z).bind fun r4=>
  (vu r1 r4).bind fun r5=>
  if((r3.2.2 !=(0:Int))||(r5.2.2 !=(0:Int)))then
  (some true)
  else
  ((xy r3.1 r5.1).bind fun r6=>
  (xR r3.1 r5.1).bind fun r7=>
  (if(r6==r7)then((xy r3.1 r3.1).bind fun r8=>
  some r8)else some false).bind fun t=>
  some t))

end Go.Proofs.YthbdkceckjihgaaGreatDoor

