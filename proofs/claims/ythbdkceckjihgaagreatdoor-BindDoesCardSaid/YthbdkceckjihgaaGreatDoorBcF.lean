/- dm of this claim: F. -/
import Derived.Test.YthbdkceckjihgaaGreatDoorBcD
import Derived.Test.YthbdkceckjihgaaGreatDoorBcV4
import Derived.Lib.MapU
set_option linter.all false
namespace Go.Proofs.YthbdkceckjihgaaGreatDoor
open Go

def xB(c:Int):Option Bool:=
 some ((decide ((97:Int)<=c))&&(decide (c<=(122:Int))))

def ec(v:cX):List cX->Nat->Option Int
 |[],i=>
  some (-1:Int)
 |e::tl,i=>
  if(v==e)then
  (some (i:Int))
  else
  ((ec v tl) (i+1))

def fB(s:(List cX))(v:cX):Option Int:=
 ec v s 0

def fN(s:(List cX))(v:cX):Option Bool:=
 (fB s v).bind fun r=>
 some (decide ((0:Int)<=r))

def yf(s:cX):Option Bool:=
 (fN Ym s).bind fun r=>
 some r

def kQ(s:cX):Option cX:=if s.length<35184372088832 then some (Lib.toUpperD s)else none

def Aw(c:Int):Option Bool:=
 some ((decide ((48:Int)<=c))&&(decide (c<=(57:Int))))

def qH:List (Int×Int)->Option Bool
  |[]=>
    some true
  |e::tl=>
    (Aw e.2).bind fun r3=>
    (if(!r3)then((xB e.2).bind fun r4=>
    some (!r4))else some false).bind fun t2=>
    if(t2&&(e.2 !=(95:Int)))then
    (some false)
    else
    ((qH tl))

def lY(s:cX):Option Bool:=
  (if(!((s==([]))||(decide ((16:Int)<(s.length:Int)))))then((uC s (0:Int)).bind fun b=>
  (xB (IntKind.i32.wrap b)).bind fun r=>
  some (!r))else some true).bind fun t=>
  (if(!t)then((kQ s).bind fun r1=>
  (yf r1).bind fun r2=>
  some r2)else some true).bind fun t1=>
  if t1 then
  (some false)
  else
  (qH (Lw s))

def dk(f:(cb->Option Bool)):List cb->Nat->Option Int
 |[],i=>
  some (-1:Int)
 |e::tl,i=>
  (f e).bind fun r=>
  if r then
  (some (i:Int))
  else
  ((dk f tl) (i+1))

def gH(s:(List cb))(f:(cb->Option Bool)):Option Int:=
 dk f s 0

def fT(of:(cb->Option cX))(name:cX)(p:cb):Option Bool:=
 (of p).bind fun r=>
 some (r==name)

def kH(l:(List cb))(of:(cb->Option cX))(name:cX):Option (Int×Bool):=
 (gH l (fT of name)).bind fun r=>
 some ((max r (0:Int)),decide ((0:Int)<=r))

def gP(l:(List cb))(of:(cb->Option cX)):List cb->Nat->Option Bool
  |[],i=>
    some true
  |e::tl,i=>
    (of e).bind fun r=>
    (kH l of r).bind fun r1=>
    (if(!(r1.1 !=(i:Int)))then((of e).bind fun r2=>
    (lY r2).bind fun r3=>
    some (!r3))else some true).bind fun t=>
    if t then
    (some false)
    else
    ((gP l of tl) (i+1))

def nv(l:(List cb))(of:(cb->Option cX)):Option Bool:=
 gP l of l 0

def fX(c:cb):Option cX:=
 some c.Name

def kY(kind:Int):Nat->Nat->Option cX
 |0,i=>
  some ([])
 |k1+1,i=>
  (fz Yn (i:Int)).bind fun e1=>
  if(e1.kind==kind)then
  (some e1.word)
  else
  ((kY kind k1) (i+1))

def vh(kind:Int):Option cX:=
 kY kind 3 0

def gw(t:bU):List Int->Nat->Bool->Option Int
  |[],i1,ok1=>
    if(!ok1)then
    (some (211:Int))
    else
    (some (0:Int))
  |e1::tl1,i1,ok1=>
    (if((ok1&&(decide ((0:Int)<=e1)))&&(decide (e1<(t.Columns.length:Int))))then((if(!((i1:Int)==(0:Int)))then((fz t.Keys (IntKind.i64.wrap ((i1:Int)-(1:Int)))).bind fun e2=>
    some (decide (e2<e1)))else some true).bind fun t3=>
    some t3)else some false).bind fun t2=>
    (gw t tl1) (i1+1) t2

def iv(t:bU):List cb->Bool->Option Int
  |[],ok=>
    gw t t.Keys 0 ok
  |e::tl,ok=>
    (if ok then((vh e.Kind).bind fun r2=>
    some (!(r2==([]))))else some false).bind fun t4=>
    (iv t tl) t4

def oa(t:bU):Option Int:=
  (lY t.Name).bind fun r=>
  (if((r&&(decide ((1:Int)<=(t.Columns.length:Int))))&&(decide ((t.Columns.length:Int)<=(4:Int))))then((nv t.Columns fX).bind fun r1=>
  some r1)else some false).bind fun t1=>
  iv t t.Columns t1

def mp(t:bU):Option Bool:=
 (oa t).bind fun r=>
 some (r !=(0:Int))

def bZ(f:(bU->Option Bool)):List bU->Nat->Option Int
 |[],i=>
  some (-1:Int)
 |e::tl,i=>
  (f e).bind fun r=>
  if r then
  (some (i:Int))
  else
  ((bZ f tl) (i+1))

def dH(s:(List bU))(f:(bU->Option Bool)):Option Int:=
 bZ f s 0

def gB(s:(List bU))(f:(bU->Option Bool)):Option Bool:=
 (dH s f).bind fun r=>
 some (decide ((0:Int)<=r))

def eB(of:(bU->Option cX))(name:cX)(p:bU):Option Bool:=
 (of p).bind fun r=>
 some (r==name)

def gZ(l:(List bU))(of:(bU->Option cX))(name:cX):Option (Int×Bool):=
 (dH l (eB of name)).bind fun r=>
 some ((max r (0:Int)),decide ((0:Int)<=r))

def ig(l:(List bU))(of:(bU->Option cX)):List bU->Nat->Option Bool
  |[],i=>
    some true
  |e::tl,i=>
    (of e).bind fun r=>
    (gZ l of r).bind fun r1=>
    (if(!(r1.1 !=(i:Int)))then((of e).bind fun r2=>
    (lY r2).bind fun r3=>
    some (!r3))else some true).bind fun t=>
    if t then
    (some false)
    else
    ((ig l of tl) (i+1))

def n9(l:(List bU))(of:(bU->Option cX)):Option Bool:=
 ig l of l 0

def eG(t:bU):Option cX:=
 some t.Name

def tF(c:aJ):Option Int:=
  (if(!(decide ((4:Int)<(c.Tables.length:Int))))then((gB c.Tables mp).bind fun r=>
  some r)else some true).bind fun t=>
  (if(!t)then((n9 c.Tables eG).bind fun r1=>
  some (!r1))else some true).bind fun t1=>
  if t1 then
  (some (210:Int))
  else
  (some (0:Int))

def wb(n:Int):Option Bool:=
 some ((decide ((0:Int)<=n))&&(decide (n<=(2147483647:Int))))

def dK(f:(aK->Option Bool)):List aK->Nat->Option Int
 |[],i=>
  some (-1:Int)
 |e::tl,i=>
  (f e).bind fun r=>
  if r then
  (some (i:Int))
  else
  ((dK f tl) (i+1))

def gG(s:(List aK))(f:(aK->Option Bool)):Option Int:=
 dK f s 0

def eF(s:(List aK))(f:(aK->Option Bool)):Option Bool:=
 (gG s f).bind fun r=>
 some (decide ((0:Int)<=r))

def s7(s:cX):Option Bool:=
  (if(!(s==([])))then((lY s).bind fun r=>
  some r)else some true).bind fun t=>
  some t

def wa(s:d7):Option Bool:=
  (lY s.Table).bind fun r=>
  (if r then((s7 s.As).bind fun r1=>
  some r1)else some false).bind fun t=>
  some t

def fg(f:(db->Option Bool)):List db->Nat->Option Int
 |[],i=>
  some (-1:Int)
 |e::tl,i=>
  (f e).bind fun r=>
  if r then
  (some (i:Int))
  else
  ((fg f tl) (i+1))

def iH(s:(List db))(f:(db->Option Bool)):Option Int:=
 fg f s 0

def gS(s:(List db))(f:(db->Option Bool)):Option Bool:=
 (iH s f).bind fun r=>
 some (decide ((0:Int)<=r))

def AI(tag:Int):Option Int:=
  if((decide (tag<(1:Int)))||(decide ((23:Int)<tag)))then
  (some (-1:Int))
  else
  (if(decide (tag<=(3:Int)))then
  (some (0:Int))
  else
  (if(decide (tag<=(11:Int)))then
  (some (1:Int))
  else
  (some (2:Int))))

def lP(v1:cJ):Option cJ:=
 some v1

def rM(v2:cJ):Option cJ:=
 lP (cJ.mk (0:Int) v2.N v2.U v2.S)

def rL(v:cJ):Option cJ:=
 rM (cJ.mk v.Kind (0:Int) v.U v.S)

def rK(v3:cJ):Option cJ:=
 lP v3

def zl(v:cJ):Option cJ:=
  if(v.Kind==(1:Int))then
  (if((v.N !=(0:Int))&&(v.N !=(1:Int)))then
  (lP v)
  else
  (rL v))
  else
  (if(v.Kind==(2:Int))then
  (rL v)
  else
  (if(v.Kind==(0:Int))then
  (rM v)
  else
  (if(v.Kind==(3:Int))then
  (if(decide ((v.S.length:Int)<=(40:Int)))then
  (rK (cJ.mk (0:Int) v.N v.U ([])))
  else
  (rK v))
  else
  (if(v.Kind==(4:Int))then
  (lP (cJ.mk (0:Int) (0:Int) (0:Int) v.S))
  else
  (lP v)))))

def wm(v:cJ):Option Int:=
 (zl v).bind fun r=>
 if(!decide (r=(⟨(0:Int),(0:Int),(0:Int),[]⟩:cJ)))then
 (some (120:Int))
 else
 (some (0:Int))

def tP(v:cJ):Option Bool:=
 (wm v).bind fun r=>
 some ((r==(0:Int))&&(v.Kind !=(4:Int)))

def pP(s:cX):Nat->Int->Option Bool
  |0,_=>none
  |n+1,x=>
    if(decide (x<(s.length:Int)))then
    ((uC s x).bind fun b=>
    (if(!(decide (b<(32:Int))))then((uC s x).bind fun b1=>
    some (decide ((126:Int)<b1)))else some true).bind fun t=>
    if t then
    (some false)
    else
    ((pP s n) (IntKind.i64.wrap (x+(1:Int)))))
    else
    (some true)

def z7(s:cX):Option Bool:=
 pP s fc (0:Int)

def yD(n:dj):Option Bool:=
  if(n.Tag==(1:Int))then
  ((if(!((!(n.Table==([])))||(!(n.Name==([])))))then((tP n.Value).bind fun r=>
  some r)else some false).bind fun t=>
  (if(t&&(decide ((0:Int)<=n.Value.N)))then((z7 n.Value.S).bind fun r1=>
  some r1)else some false).bind fun t1=>
  some t1)
  else
  (if(n.Tag==(2:Int))then
  ((if(!(!decide (n.Value=(⟨(0:Int),(0:Int),(0:Int),[]⟩:cJ))))then((lY n.Name).bind fun r2=>
  some r2)else some false).bind fun t2=>
  (if t2 then((s7 n.Table).bind fun r3=>
  some r3)else some false).bind fun t3=>
  some t3)
  else
  (some ((!((!(n.Table==([])))||(!(n.Name==([])))))&&(!(!decide (n.Value=(⟨(0:Int),(0:Int),(0:Int),[]⟩:cJ)))))))

def qc(nx:Nat->(List me)->(List Int)->Option ((List me)×Bool))(i:Nat)(all:List me)(open1:List Int)(r:Int):List Int->me->Option ((List me)×Bool)
 |[],b2=>
  (oT all ([b2])).bind fun all1=>
  (dJ open1 0 (IntKind.i64.wrap ((open1.length:Int)-r))).bind fun y1=>
  (oT y1 ([(i:Int)])).bind fun open2=>
  nx (i+1) all1 open2
 |e4::tl1,b2=>
  (fz all e4).bind fun e5=>
  (qc nx i all open1 r tl1) (me.mk ({b2 with first:=(min b2.first e5.first)}:me).first (max b2.depth (IntKind.i64.wrap (e5.depth+(1:Int)))))

def od:List dj->Nat->(List me)->(List Int)->Option ((List me)×Bool)
  |[],i,all,open1=>
    (if(((open1.length:Int)==(1:Int))&&(decide ((all.length:Int)<=(300:Int))))then((fz all (IntKind.i64.wrap ((all.length:Int)-(1:Int)))).bind fun e1=>
    some (decide (e1.depth<=(20:Int))))else some false).bind fun t1=>
    some (all,t1)
  |e::tl,i,all,open1=>
    (AI e.Tag).bind fun r=>
    (if(!((decide (r<(0:Int)))||(decide ((open1.length:Int)<r))))then((yD e).bind fun r1=>
    some (!r1))else some true).bind fun t2=>
    if t2 then
    (some ([],false))
    else
    ((dJ open1 (IntKind.i64.wrap ((open1.length:Int)-r)) (open1.length:Int)).bind fun y=>
    (some (wT ([(-1:Int),(-1:Int)]) y)).bind fun cp=>
    (fz cp (0:Int)).bind fun e2=>
    (if(!(e.L !=e2))then((fz cp (1:Int)).bind fun e3=>
    some (e.R !=e3))else some true).bind fun t3=>
    if t3 then
    (some ([],false))
    else
    (qc (od tl) i all open1 r y (⟨(i:Int),(1:Int)⟩:me)))

def Es(t:db):Option ((List me)×Bool):=
 od t.Nodes 0 ([]:List me) ([]:List Int)

def tG(t:db):Option Int:=
 (Es t).bind fun r=>
 if(!r.2)then
 (some (180:Int))
 else
 (some (0:Int))

def wV(t:db):Option Bool:=
 (tG t).bind fun r=>
 some (r !=(0:Int))

def vt(l:(List db)):Option Bool:=
 (gS l wV).bind fun r=>
 some (!r)

def pQ(s:aK):Nat->Nat->Bool->Option Bool
  |0,i3,ok3=>
    some ok3
  |k1+1,i3,ok3=>
    (fz ([s.Where,s.Having]) (i3:Int)).bind fun e4=>
    (if ok3 then((if(!((e4.Nodes.length:Int)==(0:Int)))then((vt ([e4])).bind fun r1=>
    some r1)else some true).bind fun t1=>
    some t1)else some false).bind fun t=>
    (pQ s k1) (i3+1) t

def nB(s:aK):List jY->Bool->Option Bool
  |[],ok2=>
    pQ s 2 0 ok2
  |e2::tl2,ok2=>
    (if ok2 then((lY e2.Name).bind fun r2=>
    some r2)else some false).bind fun t2=>
    (if t2 then((s7 e2.Table).bind fun r3=>
    some r3)else some false).bind fun t3=>
    (nB s tl2) t3

def nC(s:aK):List mZ->Bool->Option Bool
  |[],ok1=>
    nB s s.Group ok1
  |e1::tl1,ok1=>
    (if ok1 then((vt ([e1.On])).bind fun r4=>
    some r4)else some false).bind fun t4=>
    (if t4 then((wa e1.Source).bind fun r5=>
    some r5)else some false).bind fun t5=>
    (nC s tl1) t5

def nD(s:aK):List fK->Bool->Option Bool
  |[],ok=>
    nC s s.Joins ok
  |e::tl,ok=>
    (if ok then((vt ([e.Tree])).bind fun r6=>
    some r6)else some false).bind fun t6=>
    (if t6 then((s7 e.As).bind fun r7=>
    some r7)else some false).bind fun t7=>
    (nD s tl) t7

def wW(s:aK):Option Bool:=
  if((((s.Star !=((s.Items.length:Int)==(0:Int)))||(decide ((6:Int)<(s.Items.length:Int))))||(decide ((2:Int)<(s.Joins.length:Int))))||(decide ((3:Int)<(s.Group.length:Int))))then
  (some false)
  else
  ((wa s.From).bind fun r=>
  nD s s.Items r)

def ug(s:aK):Option Bool:=
 (wW s).bind fun r=>
 some (!r)

def qd(q:ce):List sC->Bool->Option Int
  |[],ok=>
    (if(!(!ok))then((eF q.Selects ug).bind fun r1=>
    some r1)else some true).bind fun t2=>
    if t2 then
    (some (180:Int))
    else
    (some (0:Int))
  |e::tl,ok=>
    (if ok then((if(e.Name==([]))then((wb e.Number).bind fun r2=>
    some r2)else some false).bind fun t4=>
    (if(!t4)then((lY e.Name).bind fun r3=>
    some (r3&&(e.Number==(0:Int))))else some true).bind fun t5=>
    some t5)else some false).bind fun t3=>
    (qd q tl) t3

def AJ(q:ce):Option Int:=
  (if(((decide ((0:Int)<(q.Selects.length:Int)))&&(decide ((q.Selects.length:Int)<=(3:Int))))&&(decide ((q.Keys.length:Int)<=(3:Int))))then((if(!(q.Limit==(-1:Int)))then((wb q.Limit).bind fun r=>
  some r)else some true).bind fun t1=>
  some t1)else some false).bind fun t=>
  qd q q.Keys t

def qb(c:aJ)(name:cX):Option (Int×Bool):=
 (gZ c.Tables eG name).bind fun r=>
 some (r.1,r.2)

def wU(s:d7):Option cX:=
 if(s.As==([]))then
 (some s.Table)
 else
 (some s.As)

def gQ(r1:cX):List cb->am->Option (Int×am)
 |[],ob=>
  some ((0:Int),ob)
 |e1::tl,ob=>
  (oT ((ie ob.alone e1.Name).getD []) ([(ob.kinds.length:Int)])).bind fun l9=>
  (some ({({ob with alone:=(kh ob.alone e1.Name l9)}:am)with behind:=(kh ob.behind ((⟨r1,e1.Name⟩:jY).Table,(⟨r1,e1.Name⟩:jY).Name) (ob.kinds.length:Int))}:am)).bind fun sc1=>
  (oT sc1.kinds ([e1.Kind])).bind fun l10=>
  (gQ r1 tl) ({sc1 with kinds:=l10}:am)

def ir(s:am)(p:d7):Option (Int×am):=
  (qb s.Catalog p.Table).bind fun r=>
  (wU p).bind fun r1=>
  if(!r.2)then
  (some ((220:Int),s))
  else
  (if((ie s.called r1).getD false)then
  (some ((221:Int),s))
  else
  ((oT s.out.Tables ([r.1])).bind fun l=>
  (some ({({s with called:=(kh s.called r1 true)}:am)with out:=({({s with called:=(kh s.called r1 true)}:am).out with Tables:=l}:bb)}:am)).bind fun sc=>
  (fz sc.Catalog.Tables r.1).bind fun e=>
  gQ r1 e.Columns sc))

def iW(s:am):Option (Int×am):=
 (ir ({s with at_:=(0:Int)}:am) ((({s with at_:=(0:Int)}:am).from_).From)).bind fun r=>
 some (r.1,r.2)

def sY(tag:Int):Option Int:=
  if((tag==(1:Int))||(tag==(2:Int)))then
  (some (0:Int))
  else
  (if((decide ((4:Int)<=tag))&&(decide (tag<=(7:Int))))then
  (some (1:Int))
  else
  (if((decide ((12:Int)<=tag))&&(decide (tag<=(23:Int))))then
  (some (2:Int))
  else
  (some (-1:Int))))

def wQ(n:aD):Option Bool:=
  if(n.Tag==(1:Int))then
  ((tP n.Value).bind fun r=>
  some (r&&(n.Col==(0:Int))))
  else
  (if(n.Tag==(2:Int))then
  (some (((decide (n.Value=(⟨(0:Int),(0:Int),(0:Int),[]⟩:cJ)))&&(decide ((0:Int)<=n.Col)))&&(decide (n.Col<(16:Int)))))
  else
  (some ((decide (n.Value=(⟨(0:Int),(0:Int),(0:Int),[]⟩:cJ)))&&(n.Col==(0:Int)))))

def nt(nx:Nat->(List Int)->(List Int)->Option ((List Int)×Bool))(i:Nat)(e1:aD)(all:List Int)(open1:List Int)(r:Int):List Int->Nat->Int->(List Int)->Option ((List Int)×Bool)
  |[],i1,first,at1=>
    if(!decide (at1=([e1.L,e1.R])))then
    (some ([],false))
    else
    ((oT all ([first])).bind fun all1=>
    (dJ open1 0 (IntKind.i64.wrap ((open1.length:Int)-r))).bind fun y1=>
    (oT y1 ([(i:Int)])).bind fun open2=>
    nx (i+1) all1 open2)
  |e2::tl1,i1,first,at1=>
    (fz all e2).bind fun e3=>
    (fz at1 (i1:Int)).bind fun e4=>
    (some (at1.set (i1:Int).toNat e2)).bind fun ar=>
    (nt nx i e1 all open1 r tl1) (i1+1) (min first e3) ar

def mb:List aD->Nat->(List Int)->(List Int)->Option ((List Int)×Bool)
  |[],i,all,open1=>
    some (all,(((open1.length:Int)==(1:Int))&&(decide ((all.length:Int)<=(1000:Int)))))
  |e1::tl,i,all,open1=>
    (sY e1.Tag).bind fun r=>
    (if(!((decide (r<(0:Int)))||(decide ((open1.length:Int)<r))))then((wQ e1).bind fun r1=>
    some (!r1))else some true).bind fun t=>
    if t then
    (some ([],false))
    else
    ((dJ open1 (IntKind.i64.wrap ((open1.length:Int)-r)) (open1.length:Int)).bind fun y=>
    nt (mb tl) i e1 all open1 r y 0 (i:Int) ([(-1:Int),(-1:Int)]))

def zS(e:aZ):Option ((List Int)×Bool):=
 mb e.Nodes 0 ([]:List Int) ([]:List Int)

def rj(e:aZ):Option Int:=
 (zS e).bind fun r=>
 if(!r.2)then
 (some (200:Int))
 else
 (some (0:Int))

def eW(i:Nat)(y:List Int):Nat->Nat->(List Int)->Int->Option (List Int)
  |0,i1,s1,k=>
    (dJ s1 k (s1.length:Int)).bind fun y1=>
    (some (s1.take k.toNat++List.replicate y1.length (0:Int))).bind fun cl=>
    (dJ cl 0 k).bind fun y2=>
    some y2
  |k2+1,i1,s1,k=>
    (Ig s1 (i:Int) y.length (i1:Int)).bind fun e3=>
    (Ig s1 (i:Int) y.length (IntKind.i64.wrap ((i1:Int)-(1:Int)))).bind fun e4=>
    if(e3 !=e4)then
    ((Ig s1 (i:Int) y.length (i1:Int)).bind fun e5=>
    (fz s1 k).bind fun e6=>
    (some (s1.set k.toNat e5)).bind fun st=>
    (eW i y k2) (i1+1) st (IntKind.i64.wrap (k+(1:Int))))
    else
    ((eW i y k2) (i1+1) s1 k)

def fS(s:(List Int)):List Int->Nat->Option (List Int)
  |[],i=>
    some s
  |e::tl,i=>
    (fz s (IntKind.i64.wrap ((i:Int)-(1:Int)))).bind fun e1=>
    if(e==e1)then
    ((dJ s (i:Int) (s.length:Int)).bind fun y=>
    eW i y (y.length-1) 1 s (i:Int))
    else
    ((fS s tl) (i+1))

def lv(s:(List Int)):Option (List Int):=
 if(decide ((s.length:Int)<(2:Int)))then
 (some s)
 else
 (fS s (s.drop (1)) 1)

def n7:List aD->(List Int)->Option (List Int)
  |[],out=>
    (Ge out).bind fun Z6=>
    (lv Z6).bind fun r1=>
    some r1
  |e1::tl,out=>
    if(e1.Tag==(2:Int))then
    ((oT out ([e1.Col])).bind fun out1=>
    (n7 tl) out1)
    else
    ((n7 tl) out)

def xH(e:aZ):Option (List Int):=
 (rj e).bind fun r=>
 if(r !=(0:Int))then
 (some ([]:List Int))
 else
 (n7 e.Nodes ([]:List Int))

def mA(s:(List Int)):Option (List Int):=
 (oT ([]:List Int) s).bind fun x=>
 some x

def qV(stack:(List Int))(k:Int):Option ((List Int)×(List Int)):=
 (dJ stack (IntKind.i64.wrap ((stack.length:Int)-k)) (stack.length:Int)).bind fun y=>
 (mA y).bind fun r=>
 (dJ stack 0 (IntKind.i64.wrap ((stack.length:Int)-k))).bind fun y1=>
 some (r,y1)

def nr(bad:Int)(stack:List Int):Option (Int×Int):=
  if(bad !=(0:Int))then
  (some ((0:Int),bad))
  else
  ((fz stack (0:Int)).bind fun e1=>
  some (e1,(0:Int)))

def iU(do1:(aD->(List Int)->Option (Int×Int))):List aD->Int->(List Int)->Option (Int×Int)
  |[],bad1,stack1=>
    nr bad1 stack1
  |e2::tl,bad1,stack1=>
    (sY e2.Tag).bind fun r=>
    (qV stack1 r).bind fun r1=>
    (do1 e2 r1.1).bind fun r2=>
    if(r2.2 !=(0:Int))then
    (nr r2.2 r1.2)
    else
    ((oT r1.2 ([r2.1])).bind fun l2=>
    (iU do1 tl) bad1 l2)

def qJ(e:aZ)(do1:(aD->(List Int)->Option (Int×Int))):Option (Int×Int):=
 iU do1 e.Nodes (0:Int) ([]:List Int)

def yU(tag:Int):Option Bool:=
 some ((tag==(4:Int))||((decide ((12:Int)<=tag))&&(decide (tag<=(15:Int)))))

def nu(kinds:(List Int))(n:aD):List Int->Int->Option (Int×Int)
  |[],own=>
    if(n.Tag==(1:Int))then
    (some (n.Value.Kind,(0:Int)))
    else
    (if(n.Tag==(2:Int))then
    ((fz kinds n.Col).bind fun e1=>
    some (e1,(0:Int)))
    else
    ((yU n.Tag).bind fun r=>
    if r then
    (if((own==(-1:Int))||((own !=(0:Int))&&(own !=(2:Int))))then
    (some ((0:Int),(201:Int)))
    else
    (some ((2:Int),(0:Int))))
    else
    (if(((n.Tag==(5:Int))||(n.Tag==(22:Int)))||(n.Tag==(23:Int)))then
    (if((own==(-1:Int))||((own !=(0:Int))&&(own !=(1:Int))))then
    (some ((0:Int),(201:Int)))
    else
    (some ((1:Int),(0:Int))))
    else
    (if((own==(-1:Int))||((own !=(0:Int))&&(own !=own)))then
    (some ((0:Int),(201:Int)))
    else
    (some ((1:Int),(0:Int)))))))
  |e::tl,own=>
    if((e==(0:Int))||(e==own))then
    ((nu kinds n tl) own)
    else
    (if(own==(0:Int))then
    ((nu kinds n tl) e)
    else
    ((nu kinds n tl) (-1:Int)))

def kA(kinds:(List Int))(n:aD)(l:(List Int)):Option (Int×Int):=
 nu kinds n l (0:Int)

def n6(e:aZ)(kinds:(List Int)):List Int->Option (Int×Int)
 |[]=>
  (qJ e (kA kinds)).bind fun r2=>
  some (r2.1,r2.2)
 |e2::tl1=>
  if(decide ((kinds.length:Int)<=e2))then
  (some ((0:Int),(2:Int)))
  else
  ((n6 e kinds tl1))

def sl(e:aZ)(kinds:(List Int)):List Int->Option (Int×Int)
 |[]=>
  (xH e).bind fun r1=>
  n6 e kinds r1
 |e1::tl=>
  if((decide (e1<(0:Int)))||(decide ((3:Int)<e1)))then
  (some ((0:Int),(2:Int)))
  else
  ((sl e kinds tl))

def s0(e:aZ)(kinds:(List Int)):Option (Int×Int):=
 (rj e).bind fun r=>
 if(r !=(0:Int))then
 (some ((0:Int),r))
 else
 (sl e kinds kinds)

def qW:Option (List (Int×Int)):=
 some (kh (kh (kh (kh (kh ([]:List (Int×Int)) (3:Int) (1:Int)) (8:Int) (2:Int)) (9:Int) (3:Int)) (10:Int) (4:Int)) (11:Int) (5:Int))

def sj(nx:(List aD)->Option (List aD))(out1:List aD)(n1:aD):Option (List aD):=
 (oT out1 ([n1])).bind fun out2=>
 nx out2

def sk(out:(List aD))(nx:(List aD)->Option (List aD))(out1:List aD)(n:aD):Option (List aD):=
 if(decide ((0:Int)<=n.R))then
 (sj nx out1 (aD.mk n.Tag n.L (IntKind.i64.wrap (n.R+(out.length:Int))) n.Col n.Value))
 else
 (sj nx out1 n)

def kj(out:(List aD)):List aD->(List aD)->Option (List aD)
 |[],out1=>
  some out1
 |e1::tl,out1=>
  if(decide ((0:Int)<=e1.L))then
  (sk out (kj out tl) out1 (aD.mk e1.Tag (IntKind.i64.wrap (e1.L+(out.length:Int))) e1.R e1.Col e1.Value))
  else
  (sk out (kj out tl) out1 e1)

def AE(out:(List aD))(e:aZ):Option (List aD):=
 kj out e.Nodes out

def jx(root:aD):List aZ->Nat->(List aD)->(List Int)->Option aZ
 |[],i,out,at1=>
  (fz at1 (0:Int)).bind fun e1=>
  (fz at1 (1:Int)).bind fun e2=>
  (oT out ([(aD.mk ({root with L:=e1}:aD).Tag ({root with L:=e1}:aD).L e2 ({root with L:=e1}:aD).Col ({root with L:=e1}:aD).Value)])).bind fun l2=>
  some (⟨l2⟩:aZ)
 |e::tl,i,out,at1=>
  (AE out e).bind fun r=>
  (fz at1 (i:Int)).bind fun e3=>
  (some (at1.set (i:Int).toNat (IntKind.i64.wrap ((r.length:Int)-(1:Int))))).bind fun ar=>
  (jx root tl) (i+1) r ar

def mK(root:aD)(l:(List aZ)):Option aZ:=
 jx root l 0 ([]:List aD) ([(-1:Int),(-1:Int)])

def n5(root:aD)(l:(List aZ)):List aZ->aZ->Option (aZ×Int)
 |[],x=>
  (mK root l).bind fun r=>
  (rj r).bind fun r1=>
  if(r1 !=(0:Int))then
  (some ((⟨[]⟩:aZ),r1))
  else
  (some (r,(0:Int)))
 |e::tl,x=>
  (rj e).bind fun r2=>
  if(r2 !=(0:Int))then
  (some ((⟨[]⟩:aZ),r2))
  else
  ((n5 root l tl) x)

def sZ(root:aD)(l:(List aZ)):Option (aZ×Int):=
 n5 root l l (⟨[]⟩:aZ)

def vq(n:aD):Option (aZ×Int):=
 (sZ n ([])).bind fun r=>
 some (r.1,r.2)

def ca(n:aD):Option (aZ×Int):=
 (vq n).bind fun r=>
 some (r.1,r.2)

def gA(s:am)(group:Bool):Option (List Int):=
 if group then
 (some s.groups)
 else
 (some s.kinds)

def kJ(s:am)(n:jY):Option (Int×Int):=
  if(!(n.Table==([])))then
  (if(!((ie s.behind (n.Table,n.Name)).isSome))then
  (some ((0:Int),(222:Int)))
  else
  (some (((ie s.behind (n.Table,n.Name)).getD (0:Int)),(0:Int))))
  else
  (if((((ie s.alone n.Name).getD []).length:Int)==(0:Int))then
  (some ((0:Int),(222:Int)))
  else
  (if((((ie s.alone n.Name).getD []).length:Int)==(1:Int))then
  ((fz ((ie s.alone n.Name).getD []) (0:Int)).bind fun e=>
  some (e,(0:Int)))
  else
  (some ((0:Int),(223:Int)))))

def iO(v:Int):List Int->Nat->Option Int
 |[],i=>
  some (-1:Int)
 |e::tl,i=>
  if(v==e)then
  (some (i:Int))
  else
  ((iO v tl) (i+1))

def mz(s:(List Int))(v:Int):Option Int:=
 iO v s 0

def ez(f:(lb->Option Bool)):List lb->Nat->Option Int
 |[],i=>
  some (-1:Int)
 |e::tl,i=>
  (f e).bind fun r=>
  if r then
  (some (i:Int))
  else
  ((ez f tl) (i+1))

def jk(s:(List lb))(f:(lb->Option Bool)):Option Int:=
 ez f s 0

def eA(s2:(List aD)):List aD->Nat->Option Bool
 |[],i=>
  some true
 |e::tl,i=>
  (fz s2 (i:Int)).bind fun e1=>
  if(!decide (e=e1))then
  (some false)
  else
  ((eA s2 tl) (i+1))

def jl(s1:(List aD))(s2:(List aD)):Option Bool:=
 if((s1.length:Int) !=(s2.length:Int))then
 (some false)
 else
 (eA s2 s1 0)

def AF(a1:aZ)(b:aZ):Option Bool:=
 (jl a1.Nodes b.Nodes).bind fun r=>
 some r

def lN(c:lb)(p:lb):Option Bool:=
  (if(p.Tag==c.Tag)then((AF p.Arg c.Arg).bind fun r=>
  some r)else some false).bind fun t=>
  some t

def mL(i:Int)(ob:am):Option (Int×Int×am):=
 if(decide ((12:Int)<(ob.out.Aggs.length:Int)))then
 (some ((0:Int),(228:Int),ob))
 else
 (some ((IntKind.i64.wrap ((ob.out.Keys.length:Int)+i)),(0:Int),ob))

def kK(s:am)(a1:lb)(kind:Int):Option (Int×Int×am):=
  (jk s.out.Aggs (lN a1)).bind fun r=>
  if(decide (r<(0:Int)))then
  ((oT s.out.Aggs ([a1])).bind fun l7=>
  (oT s.groups ([kind])).bind fun l8=>
  mL (s.out.Aggs.length:Int) ({({s with out:=({s.out with Aggs:=l7}:bb)}:am)with groups:=l8}:am))
  else
  (mL r s)

def nz(s:am)(a1:lb):Option (Int×Int×am):=
  if(a1.Tag !=(1:Int))then
  ((s0 a1.Arg s.kinds).bind fun r1=>
  if((r1.2 !=(0:Int))||(((a1.Tag==(3:Int))&&(r1.1 !=(2:Int)))&&(r1.1 !=(0:Int))))then
  (some ((0:Int),(201:Int),s))
  else
  (if((a1.Tag==(4:Int))||(a1.Tag==(5:Int)))then
  (kK s a1 r1.1)
  else
  (kK s a1 (2:Int))))
  else
  (kK s a1 (2:Int))

def zT(tag:Int)(l:aZ):Option (aZ×Int):=
 (sZ (⟨tag,(0:Int),(0:Int),(0:Int),(⟨(0:Int),(0:Int),(0:Int),[]⟩:cJ)⟩:aD) ([l])).bind fun r=>
 some (r.1,r.2)

def Df(tag:Int)(l:aZ)(r:aZ):Option (aZ×Int):=
 (sZ (⟨tag,(0:Int),(0:Int),(0:Int),(⟨(0:Int),(0:Int),(0:Int),[]⟩:cJ)⟩:aD) ([l,r])).bind fun r1=>
 some (r1.1,r1.2)

def eD(s:am)(leaf:(aD->Option (aZ×Int)))(at1:Int)(e1:Int):Option (aZ×Int×am):=
  if(e1 !=(0:Int))then
  (some ((⟨[]⟩:aZ),e1,s))
  else
  ((leaf (⟨(2:Int),(0:Int),(0:Int),at1,(⟨(0:Int),(0:Int),(0:Int),[]⟩:cJ)⟩:aD)).bind fun r2=>
  some (r2.1,r2.2,s))

def fQ(leaf:(aD->Option (aZ×Int)))(ob:am)(a1:lb):Option (aZ×Int×am):=
  (nz ob a1).bind fun r4=>
  if(r4.2.1 !=(0:Int))then
  (some ((⟨[]⟩:aZ),r4.2.1,r4.2.2))
  else
  ((leaf (⟨(2:Int),(0:Int),(0:Int),r4.1,(⟨(0:Int),(0:Int),(0:Int),[]⟩:cJ)⟩:aD)).bind fun r5=>
  some (r5.1,r5.2,r4.2.2))

def pN(x1:aZ)(e5:Int)(ob1:am):Option (aZ×Int×am):=
 some (x1,e5,ob1)

def iX(over:am->Bool->Option ((List Int)×am))(group:Bool)(ob:am)(e4:Int)(x1:aZ):Option (aZ×Int×am):=
  if(e4==(0:Int))then
  ((over ob (group)).bind fun r7=>
  (s0 x1 r7.1).bind fun r8=>
  pN x1 r8.2 r7.2)
  else
  (pN x1 e4 ob)

def gR(leaf:(aD->Option (aZ×Int)))(tags:(List (Int×Int)))(over:am->Bool->Option ((List Int)×am))(group:Bool)(e:dj)(parts:List aZ)(x:aZ)(ob:am):Option (aZ×Int×am):=
  if((decide ((0:Int)<((ie tags e.Tag).getD (0:Int))))&&(!group))then
  (some ((⟨[]⟩:aZ),(224:Int),ob))
  else
  (if(decide ((0:Int)<((ie tags e.Tag).getD (0:Int))))then
  (if(decide ((0:Int)<(parts.length:Int)))then
  ((fz parts (0:Int)).bind fun e2=>
  fQ leaf ob (lb.mk (⟨((ie tags e.Tag).getD (0:Int)),(⟨[]⟩:aZ)⟩:lb).Tag e2))
  else
  (fQ leaf ob (⟨((ie tags e.Tag).getD (0:Int)),(⟨[]⟩:aZ)⟩:lb)))
  else
  ((fz parts (0:Int)).bind fun e3=>
  (zT e.Tag e3).bind fun r6=>
  if((parts.length:Int)==(2:Int))then
  ((fz parts (1:Int)).bind fun e6=>
  (Df e.Tag e3 e6).bind fun r9=>
  iX over group ob r9.2 r9.1)
  else
  (iX over group ob r6.2 r6.1)))

def eC(self__:am->db->(aD->Option (aZ×Int))->(List (Int×Int))->(am->Bool->Option ((List Int)×am))->Int->Bool->Option (aZ×Int×am))(t:db)(leaf:(aD->Option (aZ×Int)))(tags:(List (Int×Int)))(over:am->Bool->Option ((List Int)×am))(group:Bool)(e:dj):Nat->Nat->(List aZ)->aZ->am->Option (aZ×Int×am)
  |0,i3,parts1,x2,ob2=>
    gR leaf tags over group e parts1 x2 ob2
  |k1+1,i3,parts1,x2,ob2=>
    (fz ([e.L,e.R]) (i3:Int)).bind fun e8=>
    if(decide (e8<(0:Int)))then
    (gR leaf tags over group e parts1 x2 ob2)
    else
    ((self__ ob2 t leaf tags over e8 (group&&(((ie tags e.Tag).getD (0:Int))==(0:Int)))).bind fun r10=>
    if(r10.2.1 !=(0:Int))then
    (some (r10.1,r10.2.1,r10.2.2))
    else
    ((oT parts1 ([r10.1])).bind fun parts2=>
    (eC self__ t leaf tags over group e k1) (i3+1) parts2 x2 r10.2.2))

def cy:Nat->am->db->(aD->Option (aZ×Int))->(List (Int×Int))->(am->Bool->Option ((List Int)×am))->Int->Bool->Option (aZ×Int×am)
  |0,_,_,_,_,_,_,_=>none
  |fu+1,s,t,leaf,tags,over,i,group=>
    (fz t.Nodes i).bind fun e=>
    if(e.Tag==(1:Int))then
    ((leaf (⟨(1:Int),(0:Int),(0:Int),(0:Int),e.Value⟩:aD)).bind fun r=>
    some (r.1,r.2,s))
    else
    (if(e.Tag==(2:Int))then
    ((kJ s (⟨e.Table,e.Name⟩:jY)).bind fun r1=>
    if((r1.2==(0:Int))&&group)then
    ((mz s.out.Keys r1.1).bind fun r3=>
    if(decide (r3<(0:Int)))then
    (eD s leaf r3 (225:Int))
    else
    (eD s leaf r3 r1.2))
    else
    (eD s leaf r1.1 r1.2))
    else
    (eC (cy fu) t leaf tags over group e 2 0 ([]:List aZ) (⟨[]⟩:aZ) s))

def sn(s:am)(t:db)(leaf:(aD->Option (aZ×Int)))(tags:(List (Int×Int)))(over:am->Bool->Option ((List Int)×am))(i:Int)(group:Bool):Option (aZ×Int×am):=
 cy fc s t leaf tags over i group

def mq(s:am)(t:db)(group:Bool):Option (aZ×Int×Int×am):=
  (qW).bind fun r=>
  (sn s t ca r (fun(mc:am) (mx:Bool)=>(gA mc mx).map fun mr=>(mr,mc)) (IntKind.i64.wrap ((t.Nodes.length:Int)-(1:Int))) group).bind fun r1=>
  if(r1.2.1 !=(0:Int))then
  (some ((⟨[]⟩:aZ),(0:Int),r1.2.1,r1.2.2))
  else
  (((fun(mc:am) (mx:Bool)=>(gA mc mx).map fun mr=>(mr,mc)) r1.2.2 (group)).bind fun r2=>
  (s0 r1.1 r2.1).bind fun r3=>
  some (r1.1,r3.1,r3.2,r2.2))

def m8(r:aZ×Int×Int×am)(e:Int):Option (aZ×Int×am):=
 some (r.1,e,r.2.2.2)

def fE(s:am)(t:db)(group:Bool):Option (aZ×Int×am):=
 (mq s t group).bind fun r=>
 if(((r.2.2.1==(0:Int))&&(r.2.1 !=(1:Int)))&&(r.2.1 !=(0:Int)))then
 (m8 r (226:Int))
 else
 (m8 r r.2.2.1)

def jK:List mZ->am->Option (Int×am)
  |[],ob=>
    some ((0:Int),ob)
  |e::tl,ob=>
    (ir ob e.Source).bind fun r=>
    if(r.1 !=(0:Int))then
    (some (r.1,r.2))
    else
    ((fE r.2 e.On false).bind fun r1=>
    if(r1.2.1 !=(0:Int))then
    (some (r1.2.1,r1.2.2))
    else
    ((oT r1.2.2.out.Joins ([(⟨e.Left,r1.1⟩:la)])).bind fun l7=>
    (jK tl) ({r1.2.2 with out:=({r1.2.2.out with Joins:=l7}:bb)}:am)))

def gh(s:am):Option (Int×am):=
 jK ((({s with at_:=(1:Int)}:am).from_).Joins) ({s with at_:=(1:Int)}:am)

def qm(e:Int)(ob:am):Option (Int×am):=
 some (e,ob)

def g9(s:am):Option (Int×am):=
  if(decide ((0:Int)<((((({s with at_:=(2:Int)}:am).from_).Where).Nodes).length:Int)))then
  ((fE ({s with at_:=(2:Int)}:am) ((({s with at_:=(2:Int)}:am).from_).Where) false).bind fun r=>
  qm r.2.1 ({r.2.2 with out:=({r.2.2.out with Where:=r.1}:bb)}:am))
  else
  (qm (0:Int) ({s with at_:=(2:Int)}:am))

def lp:List jY->am->Option (Int×am)
  |[],ob=>
    some ((0:Int),ob)
  |e::tl,ob=>
    (kJ ob e).bind fun r=>
    if(r.2 !=(0:Int))then
    (some (r.2,ob))
    else
    ((oT ob.out.Keys ([r.1])).bind fun l7=>
    (fz ob.kinds r.1).bind fun e1=>
    (oT ob.groups ([e1])).bind fun l8=>
    (lp tl) ({({ob with out:=({ob.out with Keys:=l7}:bb)}:am)with groups:=l8}:am))

def gi(s:am):Option (Int×am):=
 lp ((({s with at_:=(3:Int)}:am).from_).Group) ({s with at_:=(3:Int)}:am)

def ei(f:(dj->Option Bool)):List dj->Nat->Option Int
 |[],i=>
  some (-1:Int)
 |e::tl,i=>
  (f e).bind fun r=>
  if r then
  (some (i:Int))
  else
  ((ei f tl) (i+1))

def iI(s:(List dj))(f:(dj->Option Bool)):Option Int:=
 ei f s 0

def fh(s:(List dj))(f:(dj->Option Bool)):Option Bool:=
 (iI s f).bind fun r=>
 some (decide ((0:Int)<=r))

def nA(tags:(List (Int×Int)))(n:dj):Option Bool:=
 some (decide ((0:Int)<((ie tags n.Tag).getD (0:Int))))

def pO(tags:(List (Int×Int)))(p:fK):Option Bool:=
 (fh p.Tree.Nodes (nA tags)).bind fun r=>
 some r

def ej(f:(fK->Option Bool)):List fK->Nat->Option Int
 |[],i=>
  some (-1:Int)
 |e::tl,i=>
  (f e).bind fun r=>
  if r then
  (some (i:Int))
  else
  ((ej f tl) (i+1))

def iJ(s:(List fK))(f:(fK->Option Bool)):Option Int:=
 ej f s 0

def fi(s:(List fK))(f:(fK->Option Bool)):Option Bool:=
 (iJ s f).bind fun r=>
 some (decide ((0:Int)<=r))

def vj(s:aK):Option Bool:=
  (qW).bind fun r=>
  (if(!((decide ((0:Int)<(s.Group.length:Int)))||(decide ((0:Int)<(s.Having.Nodes.length:Int)))))then((fi s.Items (pO r)).bind fun r1=>
  some r1)else some true).bind fun t=>
  some t

def jL:List fK->am->Option (Int×am)
  |[],ob1=>
    some ((0:Int),ob1)
  |e::tl,ob1=>
    (mq ob1 e.Tree ob1.out.Grouped).bind fun r1=>
    if(r1.2.2.1 !=(0:Int))then
    (some (r1.2.2.1,r1.2.2.2))
    else
    ((oT r1.2.2.2.out.Items ([r1.1])).bind fun l14=>
    (jL tl) ({r1.2.2.2 with out:=({r1.2.2.2.out with Items:=l14}:bb)}:am))

def io(ob:am):Option (Int×am):=
 jL ob.from_.Items ob

def ln:List Int->Nat->am->Option (Int×am)
  |[],i4,ob2=>
    io ob2
  |e1::tl1,i4,ob2=>
    (vq (⟨(2:Int),(0:Int),(0:Int),(i4:Int),(⟨(0:Int),(0:Int),(0:Int),[]⟩:cJ)⟩:aD)).bind fun r2=>
    if(r2.2 !=(0:Int))then
    (some (r2.2,ob2))
    else
    ((oT ob2.out.Items ([r2.1])).bind fun l22=>
    (ln tl1) (i4+1) ({ob2 with out:=({ob2.out with Items:=l22}:bb)}:am))

def hM(s:am):Option (Int×am):=
  (vj (({s with at_:=(4:Int)}:am).from_)).bind fun r=>
  (some ({({s with at_:=(4:Int)}:am)with out:=({({s with at_:=(4:Int)}:am).out with Distinct:=(({s with at_:=(4:Int)}:am).from_).Distinct}:bb)}:am)).bind fun sc=>
  if(((({sc with out:=({sc.out with Grouped:=r}:bb)}:am).from_).Star)&&((({sc with out:=({sc.out with Grouped:=r}:bb)}:am).out).Grouped))then
  (some ((227:Int),({sc with out:=({sc.out with Grouped:=r}:bb)}:am)))
  else
  (if((({sc with out:=({sc.out with Grouped:=r}:bb)}:am).from_).Star)then
  (ln sc.kinds 0 ({sc with out:=({sc.out with Grouped:=r}:bb)}:am))
  else
  (io ({sc with out:=({sc.out with Grouped:=r}:bb)}:am)))

def pM(e:Int)(ob:am):Option (Int×am):=
 some (e,ob)

def iu(s:am):Option (Int×am):=
  if(decide ((0:Int)<((((({s with at_:=(5:Int)}:am).from_).Having).Nodes).length:Int)))then
  ((fE ({s with at_:=(5:Int)}:am) ((({s with at_:=(5:Int)}:am).from_).Having) true).bind fun r=>
  pM r.2.1 ({r.2.2 with out:=({r.2.2.out with Having:=r.1}:bb)}:am))
  else
  (pM (0:Int) ({s with at_:=(5:Int)}:am))

def pb(e:Int)(ob:am):Option (Int×am):=
 some (e,ob)

def jy:Nat->Nat->Int->am->Option (Int×am)
 |0,i,e1,ob1=>
  pb e1 ob1
 |k1+1,i,e1,ob1=>
  (fz ([(fun(mc:am) (mx:Unit)=>iW mc),(fun(mc:am) (mx:Unit)=>gh mc),(fun(mc:am) (mx:Unit)=>g9 mc),(fun(mc:am) (mx:Unit)=>gi mc),(fun(mc:am) (mx:Unit)=>hM mc),(fun(mc:am) (mx:Unit)=>iu mc)]) (i:Int)).bind fun fn=>
  (fn ob1 ()).bind fun r=>
  if(r.1 !=(0:Int))then
  (pb r.1 r.2)
  else
  ((jy k1) (i+1) r.1 r.2)

def ny(s:am):Option (Int×am):=
 jy 6 0 (0:Int) s

def gD(over:(List Int)):List aZ->(List Int)->Option (List Int)
 |[],out=>
  some out
 |e::tl,out=>
  (s0 e over).bind fun r=>
  (oT out ([r.1])).bind fun out1=>
  (gD over tl) out1

def kI(s:am)(over:(List Int)):Option (List Int):=
 gD over s.out.Items ([]:List Int)

def kC(s:am):Option (List Int):=
 if s.out.Grouped then
 (kI s s.groups)
 else
 (kI s s.kinds)

def m9(nx:(List cX)->Option (List cX))(out1:List cX)(own:cX):Option (List cX):=
 (oT out1 ([own])).bind fun out2=>
 nx out2

def gm:List fK->(List cX)->Option (List cX)
 |[],out1=>
  some out1
 |e::tl,out1=>
  (fz e.Tree.Nodes (IntKind.i64.wrap ((e.Tree.Nodes.length:Int)-(1:Int)))).bind fun e1=>
  if(e.As==([]))then
  (m9 (gm tl) out1 e1.Name)
  else
  (m9 (gm tl) out1 e.As)

def lm(s:am)(out:List cX):Option (List cX):=
 gm s.from_.Items out

def jJ(nx1:(List cX)->Option (List cX)):List cb->(List cX)->Option (List cX)
 |[],out4=>
  nx1 out4
 |e4::tl2,out4=>
  (oT out4 ([e4.Name])).bind fun out5=>
  (jJ nx1 tl2) out5

def im(s:am):List Int->(List cX)->Option (List cX)
 |[],out3=>
  lm s out3
 |e2::tl1,out3=>
  (fz s.Catalog.Tables e2).bind fun e3=>
  jJ (im s tl1) e3.Columns out3

def nw(s:am):Option (List cX):=
 if s.from_.Star then
 (im s s.out.Tables ([]:List cX))
 else
 (lm s ([]:List cX))

def kl:List Int->Nat->(List Int)->Option (Bool×List Int)
  |[],i,all1=>
    some (true,all1)
  |e::tl,i,all1=>
    (fz all1 (i:Int)).bind fun e1=>
    if(e1==(0:Int))then
    ((some (all1.set (i:Int).toNat e)).bind fun st=>
    (kl tl) (i+1) st)
    else
    (if((e !=(0:Int))&&(e !=e1))then
    (some (false,all1))
    else
    ((kl tl) (i+1) all1))

def pL(all:(List Int))(l1:(List Int)):Option (Bool×List Int):=
 if((all.length:Int) !=(l1.length:Int))then
 (some (false,all))
 else
 (kl l1 0 all)

def Dp(k:sC)(names:(List cX)):Option (Int×Int):=
  if(k.Name==([]))then
  (if((decide (k.Number<(1:Int)))||(decide ((names.length:Int)<k.Number)))then
  (some ((0:Int),(222:Int)))
  else
  (some ((IntKind.i64.wrap (k.Number-(1:Int))),(0:Int))))
  else
  ((fB names k.Name).bind fun r=>
  if(decide (r<(0:Int)))then
  (some ((0:Int),(222:Int)))
  else
  ((dJ names (IntKind.i64.wrap (r+(1:Int))) (names.length:Int)).bind fun y=>
  (fN y k.Name).bind fun r1=>
  if r1 then
  (some ((0:Int),(223:Int)))
  else
  (some (r,(0:Int)))))

def sq:List sC->bz->bz->Option (bz×Int×Int)
  |[],x1,b3=>
    some (b3,(0:Int),(0:Int))
  |e1::tl1,x1,b3=>
    (Dp e1 b3.Names).bind fun r2=>
    if(r2.2 !=(0:Int))then
    (some ((⟨[],[],[],[],(0:Int)⟩:bz),(90:Int),r2.2))
    else
    ((oT b3.Order ([(⟨r2.1,e1.Desc⟩:ze)])).bind fun l6=>
    (sq tl1) x1 ({b3 with Order:=l6}:bz))

def oc(nx:Nat->bz->bz->Option (bz×Int×Int))(i:Nat)(r3:Int×am)(x2:bz)(b10:bz):Option (bz×Int×Int):=
 (oT b10.Selects ([r3.2.out])).bind fun l11=>
 nx (i+1) x2 ({b10 with Selects:=l11}:bz)

def km(c:aJ)(q:ce):List aK->Nat->bz->bz->Option (bz×Int×Int)
  |[],i,x,b2=>
    sq q.Keys x b2
  |e::tl,i,x,b2=>
    (some (⟨c,e,(⟨[],[],(⟨[]⟩:aZ),(⟨[]⟩:aZ),false,false,[],[],[]⟩:bb),[],[],[],[],[],(0:Int)⟩:am)).bind fun sc=>
    (ny sc).bind fun r3=>
    if(r3.1 !=(0:Int))then
    (some ((⟨[],[],[],[],(0:Int)⟩:bz),(IntKind.i64.wrap ((IntKind.i64.wrap ((10:Int)*(i:Int)))+r3.2.at_)),r3.1))
    else
    ((kC r3.2).bind fun r4=>
    if((i:Int)==(0:Int))then
    ((nw r3.2).bind fun r5=>
    oc (km c q tl) i r3 x ({({({({b2 with Names:=r5}:bz)with Selects:=b2.Selects}:bz)with Kinds:=r4}:bz)with Order:=b2.Order}:bz))
    else
    ((pL b2.Kinds r4).bind fun r6=>
    if(!r6.1)then
    (some ((⟨[],[],[],[],(0:Int)⟩:bz),(IntKind.i64.wrap ((IntKind.i64.wrap ((10:Int)*(i:Int)))+(6:Int))),(229:Int)))
    else
    (oc (km c q tl) i r3 x ({b2 with Kinds:=r6.2}:bz))))

def vr(c:aJ)(q:ce):Option (bz×Int×Int):=
  (tF c).bind fun r=>
  if(r !=(0:Int))then
  (some ((⟨[],[],[],[],(0:Int)⟩:bz),(0:Int),r))
  else
  ((AJ q).bind fun r1=>
  if(r1 !=(0:Int))then
  (some ((⟨[],[],[],[],(0:Int)⟩:bz),(0:Int),r1))
  else
  (km c q q.Selects 0 (⟨[],[],[],[],(0:Int)⟩:bz) ({({({(⟨[],[],[],[],q.Limit⟩:bz)with Selects:=([]:List bb)}:bz)with Kinds:=([]:List Int)}:bz)with Order:=([]:List ze)}:bz)))

def EQ(s:cX):Option fK:=
 some (⟨(⟨[(⟨(2:Int),(-1:Int),(-1:Int),(⟨(0:Int),(0:Int),(0:Int),[]⟩:cJ),[],s⟩:dj)]⟩:db),[]⟩:fK)

def zM:Option aJ:=
 some (⟨[(⟨[116],[(⟨[97],(2:Int)⟩:cb),(⟨[98],(3:Int)⟩:cb)],[]⟩:bU),(⟨[117],[(⟨[97],(2:Int)⟩:cb)],[]⟩:bU)]⟩:aJ)

def zL:Option Bool:=
  (EQ ([98])).bind fun r=>
  (zM).bind fun r1=>
  (vr r1 (⟨[(⟨false,false,[r],(⟨[116],[]⟩:d7),[],(⟨[]⟩:db),(⟨[]⟩:db),[]⟩:aK)],[],(-1:Int)⟩:ce)).bind fun r2=>
  (zM).bind fun r3=>
  (vr r3 (ce.mk (⟨[(⟨false,false,[r],(⟨[116],[]⟩:d7),[],(⟨[]⟩:db),(⟨[]⟩:db),[]⟩:aK)],[],(-1:Int)⟩:ce).Selects ([(⟨[],(2:Int),false⟩:sC)]) (⟨[(⟨false,false,[r],(⟨[116],[]⟩:d7),[],(⟨[]⟩:db),(⟨[]⟩:db),[]⟩:aK)],[],(-1:Int)⟩:ce).Limit)).bind fun r4=>
  (if(((((r2.2.2==(0:Int))&&(r2.2.1==(0:Int)))&&(r4.2.2==(222:Int)))&&(r4.2.1==(90:Int)))&&((r2.1.Names.length:Int)==(1:Int)))then((fz r2.1.Names (0:Int)).bind fun e=>
  some (e==([98])))else some false).bind fun t=>
  (if t then((fz r2.1.Kinds (0:Int)).bind fun e1=>
  some (e1==(3:Int)))else some false).bind fun t1=>
  (if t1 then((fz r2.1.Selects (0:Int)).bind fun e2=>
  (fz e2.Items (0:Int)).bind fun e3=>
  (fz e3.Nodes (0:Int)).bind fun e4=>
  some (e4.Col==(1:Int)))else some false).bind fun t2=>
  some t2

def tw(l:(List Int))(most:Int):Option (List Int):=
 (dJ l 0 (min (l.length:Int) most)).bind fun y=>
 (oT ([]:List Int) y).bind fun x=>
 some x

def qk(l:(List bU))(most:Int):Option (List bU):=
 (dJ l 0 (min (l.length:Int) most)).bind fun y=>
 (oT ([]:List bU) y).bind fun x=>
 some x

def mE(l:(List cb))(most:Int):Option (List cb):=
 (dJ l 0 (min (l.length:Int) most)).bind fun y=>
 (oT ([]:List cb) y).bind fun x=>
 some x

def nl:List bU->Nat->aJ->Option aJ
 |[],i,out=>
  some out
 |e::tl,i,out=>
  (fz out.Tables (i:Int)).bind fun e1=>
  (fz out.Tables (i:Int)).bind fun e2=>
  (mE e2.Columns (5:Int)).bind fun r1=>
  (tw e2.Keys (5:Int)).bind fun r2=>
  (some (out.Tables.set (i:Int).toNat ({e2 with Columns:=r1}:bU))).bind fun st=>
  (fz st (i:Int)).bind fun e3=>
  (some (st.set (i:Int).toNat ({e3 with Keys:=r2}:bU))).bind fun st1=>
  (nl tl) (i+1) ({out with Tables:=st1}:aJ)

def ub(c:aJ):Option aJ:=
 (qk c.Tables (5:Int)).bind fun r=>
 nl r 0 ({(⟨r⟩:aJ)with Tables:=r}:aJ)

def pB(l:(List aK))(most:Int):Option (List aK):=
 (dJ l 0 (min (l.length:Int) most)).bind fun y=>
 (oT ([]:List aK) y).bind fun x=>
 some x

def o5(l:(List sC))(most:Int):Option (List sC):=
 (dJ l 0 (min (l.length:Int) most)).bind fun y=>
 (oT ([]:List sC) y).bind fun x=>
 some x

def re(l:(List fK))(most:Int):Option (List fK):=
 (dJ l 0 (min (l.length:Int) most)).bind fun y=>
 (oT ([]:List fK) y).bind fun x=>
 some x

def rd(l:(List mZ))(most:Int):Option (List mZ):=
 (dJ l 0 (min (l.length:Int) most)).bind fun y=>
 (oT ([]:List mZ) y).bind fun x=>
 some x

def nV(l:(List jY))(most:Int):Option (List jY):=
 (dJ l 0 (min (l.length:Int) most)).bind fun y=>
 (oT ([]:List jY) y).bind fun x=>
 some x

def rb(l:(List dj))(most:Int):Option (List dj):=
 (dJ l 0 (min (l.length:Int) most)).bind fun y=>
 (oT ([]:List dj) y).bind fun x=>
 some x

def np:List dj->Nat->db->Option db
 |[],i,out=>
  some out
 |e::tl,i,out=>
  (fz out.Nodes (i:Int)).bind fun e1=>
  (dJ e1.Value.S 0 (min (e1.Value.S.length:Int) (60:Int))).bind fun y=>
  (dJ e1.Table 0 (min (e1.Table.length:Int) (40:Int))).bind fun y1=>
  (dJ e1.Name 0 (min (e1.Name.length:Int) (40:Int))).bind fun y2=>
  (some (out.Nodes.set (i:Int).toNat ({e1 with Value:=({e1.Value with S:=y}:cJ)}:dj))).bind fun st=>
  (fz st (i:Int)).bind fun e2=>
  (some (st.set (i:Int).toNat ({e2 with Table:=y1}:dj))).bind fun st1=>
  (fz st1 (i:Int)).bind fun e3=>
  (some (st1.set (i:Int).toNat ({e3 with Name:=y2}:dj))).bind fun st2=>
  (np tl) (i+1) ({out with Nodes:=st2}:db)

def pA(t:db):Option db:=
 (rb t.Nodes (80:Int)).bind fun r=>
 np r 0 ({(⟨r⟩:db)with Nodes:=r}:db)

def p5(nx:Nat->ce->Option ce)(i:Nat)(q1:ce):List mZ->Nat->aK->Option ce
 |[],i2,s1=>
  (pA s1.Where).bind fun r5=>
  (pA s1.Having).bind fun r6=>
  (some (q1.Selects.set (i:Int).toNat ({({({({s1 with Where:=r5}:aK)with Having:=r6}:aK)with Items:=s1.Items}:aK)with Joins:=s1.Joins}:aK))).bind fun st=>
  nx (i+1) ({q1 with Selects:=st}:ce)
 |e4::tl2,i2,s1=>
  (fz s1.Joins (i2:Int)).bind fun e5=>
  (fz s1.Joins (i2:Int)).bind fun e6=>
  (pA e6.On).bind fun r7=>
  (some (s1.Joins.set (i2:Int).toNat ({e6 with On:=r7}:mZ))).bind fun st1=>
  (p5 nx i q1 tl2) (i2+1) ({s1 with Joins:=st1}:aK)

def p6(nx:Nat->ce->Option ce)(i:Nat)(q1:ce):List fK->Nat->aK->Option ce
 |[],i1,s=>
  p5 nx i q1 s.Joins 0 s
 |e3::tl1,i1,s=>
  (fz s.Items (i1:Int)).bind fun e7=>
  (fz s.Items (i1:Int)).bind fun e8=>
  (pA e8.Tree).bind fun r8=>
  (some (s.Items.set (i1:Int).toNat ({e8 with Tree:=r8}:fK))).bind fun st2=>
  (p6 nx i q1 tl1) (i1+1) ({s with Items:=st2}:aK)

def lx:List aK->Nat->ce->Option ce
 |[],i,q1=>
  some q1
 |e::tl,i,q1=>
  (fz q1.Selects (i:Int)).bind fun e1=>
  (fz q1.Selects (i:Int)).bind fun e2=>
  (re e2.Items (7:Int)).bind fun r2=>
  (rd e2.Joins (3:Int)).bind fun r3=>
  (nV e2.Group (4:Int)).bind fun r4=>
  p6 (lx tl) i q1 r2 0 ({({({e2 with Group:=r4}:aK)with Items:=r2}:aK)with Joins:=r3}:aK)

def vn(q:ce):Option ce:=
 (pB q.Selects (4:Int)).bind fun r=>
 (o5 q.Keys (4:Int)).bind fun r1=>
 lx r 0 ({({q with Keys:=r1}:ce)with Selects:=r}:ce)

def tX(c:Int):Option Bool:=
 some ((decide ((97:Int)<=c))&&(decide (c<=(122:Int))))

def rY(s:cX):List cX->Option Bool
 |[]=>
  some false
 |e::tl=>
  if(e==s)then
  (some true)
  else
  ((rY s tl))

def D1(l:(List cX))(s:cX):Option Bool:=
 rY s l

def zF:Option (List cX):=
 some ([[83,69,76,69,67,84],[68,73,83,84,73,78,67,84],[70,82,79,77],[76,69,70,84],[74,79,73,78],[79,78],[87,72,69,82,69],[71,82,79,85,80],[66,89],[72,65,86,73,78,71],[85,78,73,79,78],[65,76,76],[79,82,68,69,82],[76,73,77,73,84],[65,83,67],[68,69,83,67],[65,83],[65,78,68],[79,82],[78,79,84],[73,83],[78,85,76,76],[84,82,85,69],[70,65,76,83,69],[67,79,85,78,84],[83,85,77],[77,73,78],[77,65,88]])

def u5(s:cX):Option Bool:=
 (zF).bind fun r=>
 (D1 r s).bind fun r1=>
 some r1

def pw(nx:(List Int)->Int->Option cX)(out:List Int)(i:Int)(c1:Int):Option cX:=
 (oT out ([c1])).bind fun out1=>
 nx out1 (IntKind.i64.wrap (i+(1:Int)))

def lW(s:cX):Nat->(List Int)->Int->Option cX
  |0,_,_=>none
  |n+1,out,i=>
    if(decide (i<(s.length:Int)))then
    ((uC s i).bind fun b=>
    (tX b).bind fun r=>
    if r then
    (pw (lW s n) out i (IntKind.u8.wrap ((IntKind.u8.wrap (b-(97:Int)))+(65:Int))))
    else
    (pw (lW s n) out i b))
    else
    (some (oV out))

def ww(s:cX):Option cX:=
 lW s fc ([]:List Int) (0:Int)

def zE(c:Int):Option Bool:=
 some ((decide ((48:Int)<=c))&&(decide (c<=(57:Int))))

def ox(s:cX):Nat->Int->Option Bool
  |0,_=>none
  |n+1,i=>
    if(decide (i<(s.length:Int)))then
    ((uC s i).bind fun b1=>
    (tX b1).bind fun r3=>
    (if(!r3)then((uC s i).bind fun b2=>
    (zE b2).bind fun r4=>
    some (!r4))else some false).bind fun t2=>
    (if t2 then((uC s i).bind fun b3=>
    some (b3 !=(95:Int)))else some false).bind fun t3=>
    if t3 then
    (some false)
    else
    ((ox s n) (IntKind.i64.wrap (i+(1:Int)))))
    else
    (some true)

def rZ(s:cX):Option Bool:=
  (if(!((decide ((s.length:Int)<(1:Int)))||(decide ((16:Int)<(s.length:Int)))))then((uC s (0:Int)).bind fun b=>
  (tX b).bind fun r=>
  some (!r))else some true).bind fun t=>
  (if(!t)then((ww s).bind fun r1=>
  (u5 r1).bind fun r2=>
  some r2)else some true).bind fun t1=>
  if t1 then
  (some false)
  else
  (ox s fc (0:Int))

def ya(kind:Int):Option cX:=
  if(kind==(1:Int))then
  (some ([98,111,111,108]))
  else
  (if(kind==(2:Int))then
  (some ([105,110,116]))
  else
  (if(kind==(3:Int))then
  (some ([116,101,120,116]))
  else
  (some ([]))))

def lj(t:bU)(nx:Int->Option Bool)(i:Int)(e:cb):Nat->Int->Option Bool
  |0,_=>none
  |n1+1,k=>
    if(decide (k<i))then
    ((fz t.Columns k).bind fun e1=>
    if(e1.Name==e.Name)then
    (some false)
    else
    ((lj t nx i e n1) (IntKind.i64.wrap (k+(1:Int)))))
    else
    (nx (IntKind.i64.wrap (i+(1:Int))))

def li(t:bU):Nat->Int->Option Bool
  |0,_=>none
  |n2+1,i1=>
    if(decide (i1<(t.Keys.length:Int)))then
    ((fz t.Keys i1).bind fun e2=>
    (if(!((decide (e2<(0:Int)))||(decide ((t.Columns.length:Int)<=e2))))then((if(decide ((0:Int)<i1))then((fz t.Keys (IntKind.i64.wrap (i1-(1:Int)))).bind fun e3=>
    some (decide (e2<=e3)))else some false).bind fun t3=>
    some t3)else some true).bind fun t2=>
    if t2 then
    (some false)
    else
    ((li t n2) (IntKind.i64.wrap (i1+(1:Int)))))
    else
    (some true)

def jI(t:bU):Nat->Int->Option Bool
  |0,_=>none
  |n+1,i=>
    if(decide (i<(t.Columns.length:Int)))then
    ((fz t.Columns i).bind fun e=>
    (rZ e.Name).bind fun r1=>
    (if(!(!r1))then((ya e.Kind).bind fun r2=>
    some (r2==([])))else some true).bind fun t1=>
    if t1 then
    (some false)
    else
    (lj t (jI t n) i e fc (0:Int)))
    else
    (li t fc (0:Int))

def pW(t:bU):Option Bool:=
 (rZ t.Name).bind fun r=>
 if(((!r)||(decide ((t.Columns.length:Int)<(1:Int))))||(decide ((4:Int)<(t.Columns.length:Int))))then
 (some false)
 else
 (jI t fc (0:Int))

def pr(c:aJ)(nx:Int->Option Bool)(i:Int)(e:bU):Nat->Int->Option Bool
  |0,_=>none
  |n1+1,k=>
    if(decide (k<i))then
    ((fz c.Tables k).bind fun e1=>
    if(e1.Name==e.Name)then
    (some false)
    else
    ((pr c nx i e n1) (IntKind.i64.wrap (k+(1:Int)))))
    else
    (nx (IntKind.i64.wrap (i+(1:Int))))

def nh(c:aJ):Nat->Int->Option Bool
  |0,_=>none
  |n+1,i=>
    if(decide (i<(c.Tables.length:Int)))then
    ((fz c.Tables i).bind fun e=>
    (pW e).bind fun r=>
    if(!r)then
    (some false)
    else
    (pr c (nh c n) i e fc (0:Int)))
    else
    (some true)

def wr(c:aJ):Option Bool:=
 if(decide ((4:Int)<(c.Tables.length:Int)))then
 (some false)
 else
 (nh c fc (0:Int))

def zD:Option (List cX):=
 some ([[83,69,76,69,67,84],[68,73,83,84,73,78,67,84],[70,82,79,77],[76,69,70,84],[74,79,73,78],[79,78],[87,72,69,82,69],[71,82,79,85,80],[66,89],[72,65,86,73,78,71],[85,78,73,79,78],[65,76,76],[79,82,68,69,82],[76,73,77,73,84],[65,83,67],[68,69,83,67],[65,83],[65,78,68],[79,82],[78,79,84],[73,83],[78,85,76,76],[84,82,85,69],[70,65,76,83,69],[67,79,85,78,84],[83,85,77],[77,73,78],[77,65,88]])

def ow(nx:(List Int)->Int->Option Bool)(up:List Int)(x:Int)(c2:Int):Option Bool:=
 (oT up ([c2])).bind fun up1=>
 nx up1 (IntKind.i64.wrap (x+(1:Int)))

def mn(up:List Int)(r:(List cX)):Nat->Nat->Option Bool
 |0,i=>
  some true
 |k1+1,i=>
  (fz r (i:Int)).bind fun e1=>
  if(e1==(oV up))then
  (some false)
  else
  ((mn up r k1) (i+1))

def kV(s:cX):Nat->(List Int)->Int->Option Bool
  |0,_,_=>none
  |n+1,up,x=>
    if(decide (x<(s.length:Int)))then
    ((uC s x).bind fun b2=>
    if(((!((decide ((97:Int)<=b2))&&(decide (b2<=(122:Int)))))&&((decide (b2<(48:Int)))||(decide ((57:Int)<b2))))&&(b2 !=(95:Int)))then
    (some false)
    else
    (if((decide ((97:Int)<=b2))&&(decide (b2<=(122:Int))))then
    (ow (kV s n) up x (IntKind.u8.wrap (b2-(32:Int))))
    else
    (ow (kV s n) up x b2)))
    else
    ((zD).bind fun r=>
    mn up r 28 0)

def nR(s:cX):Option Bool:=
  (if(!((decide ((s.length:Int)<(1:Int)))||(decide ((16:Int)<(s.length:Int)))))then((uC s (0:Int)).bind fun b=>
  some (decide (b<(97:Int))))else some true).bind fun t=>
  (if(!t)then((uC s (0:Int)).bind fun b1=>
  some (decide ((122:Int)<b1)))else some true).bind fun t1=>
  if t1 then
  (some false)
  else
  (kV s fc ([]:List Int) (0:Int))

def nK(s:cX):Option Bool:=
  (if(!(s==([])))then((nR s).bind fun r=>
  some r)else some true).bind fun t=>
  some t

def tW(tag:Int):Option Int:=
  if((decide (tag<(1:Int)))||(decide ((23:Int)<tag)))then
  (some (-1:Int))
  else
  (if(decide (tag<=(3:Int)))then
  (some (0:Int))
  else
  (if(decide (tag<=(11:Int)))then
  (some (1:Int))
  else
  (some (2:Int))))

def px(v:cJ):Option Bool:=
  if(v.Kind==(0:Int))then
  (some (decide (v=(⟨(0:Int),(0:Int),(0:Int),[]⟩:cJ))))
  else
  (if(v.Kind==(1:Int))then
  (some (((v.U==(0:Int))&&(v.S==([])))&&((v.N==(0:Int))||(v.N==(1:Int)))))
  else
  (if(v.Kind==(2:Int))then
  (some ((v.U==(0:Int))&&(v.S==([]))))
  else
  (if(v.Kind==(3:Int))then
  (some (((v.N==(0:Int))&&(v.U==(0:Int)))&&(decide ((v.S.length:Int)<=(40:Int)))))
  else
  (some ((v.Kind==(4:Int))&&(v.S==([])))))))

def tY(v:cJ):Option Bool:=
 (px v).bind fun r=>
 some (r&&(v.Kind !=(4:Int)))

def ni(v:cJ):Nat->Int->Option Bool
  |0,_=>none
  |n+1,x=>
    if(decide (x<(v.S.length:Int)))then
    ((uC v.S x).bind fun b=>
    (if(!(decide (b<(32:Int))))then((uC v.S x).bind fun b1=>
    some (decide ((126:Int)<b1)))else some true).bind fun t=>
    if t then
    (some false)
    else
    ((ni v n) (IntKind.i64.wrap (x+(1:Int)))))
    else
    ((tY v).bind fun r=>
    some (r&&(decide ((0:Int)<=v.N))))

def xd(v:cJ):Option Bool:=
 ni v fc (0:Int)

def u4(n:dj):Option Bool:=
  if(n.Tag==(1:Int))then
  ((xd n.Value).bind fun r=>
  some ((r&&(n.Table==([])))&&(n.Name==([]))))
  else
  (if(n.Tag==(2:Int))then
  ((if(decide (n.Value=(⟨(0:Int),(0:Int),(0:Int),[]⟩:cJ)))then((nR n.Name).bind fun r1=>
  some r1)else some false).bind fun t=>
  (if t then((nK n.Table).bind fun r2=>
  some r2)else some false).bind fun t1=>
  some t1)
  else
  (some (((decide (n.Value=(⟨(0:Int),(0:Int),(0:Int),[]⟩:cJ)))&&(n.Table==([])))&&(n.Name==([])))))

def jp:Nat->db->Int->Option (Int×Int)
  |0,_,_=>none
  |fu+1,t,place=>
    if((decide (place<(0:Int)))||(decide ((t.Nodes.length:Int)<=place)))then
    (some ((0:Int),(0:Int)))
    else
    ((fz t.Nodes place).bind fun e=>
    (tW e.Tag).bind fun r=>
    (if(!(decide (r<(0:Int))))then((u4 e).bind fun r1=>
    some (!r1))else some true).bind fun t1=>
    if t1 then
    (some ((0:Int),(0:Int)))
    else
    (if(r==(0:Int))then
    (if((e.L !=(-1:Int))||(e.R !=(-1:Int)))then
    (some ((0:Int),(0:Int)))
    else
    (some ((1:Int),(1:Int))))
    else
    (((jp fu) t (IntKind.i64.wrap (place-(1:Int)))).bind fun r2=>
    if(r2.1==(0:Int))then
    (some ((0:Int),(0:Int)))
    else
    (if(r==(1:Int))then
    (if((e.L !=(IntKind.i64.wrap (place-(1:Int))))||(e.R !=(-1:Int)))then
    (some ((0:Int),(0:Int)))
    else
    (some ((IntKind.i64.wrap (r2.1+(1:Int))),(IntKind.i64.wrap (r2.2+(1:Int))))))
    else
    (((jp fu) t (IntKind.i64.wrap ((IntKind.i64.wrap (place-(1:Int)))-r2.1))).bind fun r3=>
    if(((r3.1==(0:Int))||(e.R !=(IntKind.i64.wrap (place-(1:Int)))))||(e.L !=(IntKind.i64.wrap ((IntKind.i64.wrap (place-(1:Int)))-r2.1))))then
    (some ((0:Int),(0:Int)))
    else
    (some ((IntKind.i64.wrap ((IntKind.i64.wrap (r2.1+r3.1))+(1:Int))),(IntKind.i64.wrap ((max r2.2 r3.2)+(1:Int))))))))))

def BQ(t:db)(place:Int):Option (Int×Int):=
 jp fc t place

def ml(t:db):Option Bool:=
  if((decide ((t.Nodes.length:Int)<(1:Int)))||(decide ((300:Int)<(t.Nodes.length:Int))))then
  (some false)
  else
  ((BQ t (IntKind.i64.wrap ((t.Nodes.length:Int)-(1:Int)))).bind fun r=>
  some ((r.1==(t.Nodes.length:Int))&&(decide (r.2<=(20:Int)))))

def rW(s:d7):Option Bool:=
  (nR s.Table).bind fun r=>
  (if r then((nK s.As).bind fun r1=>
  some r1)else some false).bind fun t=>
  some t

def vM(t:db):Option Bool:=
  (if(!((t.Nodes.length:Int)==(0:Int)))then((ml t).bind fun r=>
  some r)else some true).bind fun t1=>
  some t1

def lH(s:aK):List jY->Option Bool
  |[]=>
    (rW s.From).bind fun r=>
    (if r then((vM s.Where).bind fun r1=>
    some r1)else some false).bind fun t=>
    (if t then((vM s.Having).bind fun r2=>
    some r2)else some false).bind fun t1=>
    some t1
  |e2::tl2=>
    (nR e2.Name).bind fun r3=>
    (if(!(!r3))then((nK e2.Table).bind fun r4=>
    some (!r4))else some true).bind fun t2=>
    if t2 then
    (some false)
    else
    ((lH s tl2))

def lI(s:aK):List mZ->Option Bool
  |[]=>
    lH s s.Group
  |e1::tl1=>
    (rW e1.Source).bind fun r5=>
    (if(!(!r5))then((ml e1.On).bind fun r6=>
    some (!r6))else some true).bind fun t3=>
    if t3 then
    (some false)
    else
    ((lI s tl1))

def lJ(s:aK):List fK->Option Bool
  |[]=>
    lI s s.Joins
  |e::tl=>
    (ml e.Tree).bind fun r7=>
    (if(!(!r7))then((nK e.As).bind fun r8=>
    some (!r8))else some true).bind fun t4=>
    if t4 then
    (some false)
    else
    ((lJ s tl))

def tp(s:aK):Option Bool:=
 if((((s.Star !=((s.Items.length:Int)==(0:Int)))||(decide ((6:Int)<(s.Items.length:Int))))||(decide ((2:Int)<(s.Joins.length:Int))))||(decide ((3:Int)<(s.Group.length:Int))))then
 (some false)
 else
 (lJ s s.Items)

def pu:List sC->Option Bool
 |[]=>
  some true
 |e1::tl1=>
  (nK e1.Name).bind fun r=>
  if((((!r)||(decide (e1.Number<(0:Int))))||(decide ((2147483647:Int)<e1.Number)))||((!(e1.Name==([])))&&(e1.Number !=(0:Int))))then
  (some false)
  else
  ((pu tl1))

def nj(q:ce):List aK->Option Bool
 |[]=>
  pu q.Keys
 |e::tl=>
  (tp e).bind fun r1=>
  if(!r1)then
  (some false)
  else
  ((nj q tl))

def wv(q:ce):Option Bool:=
 if(((((decide ((q.Selects.length:Int)<(1:Int)))||(decide ((3:Int)<(q.Selects.length:Int))))||(decide ((3:Int)<(q.Keys.length:Int))))||(decide (q.Limit<(-1:Int))))||(decide ((2147483647:Int)<q.Limit)))then
 (some false)
 else
 (nj q q.Selects)

def qw(c:aJ)(name:cX):Nat->Int->Option Int
  |0,_=>none
  |n+1,i=>
    if(decide (i<(c.Tables.length:Int)))then
    ((fz c.Tables i).bind fun e=>
    if(e.Name==name)then
    (some i)
    else
    ((qw c name n) (IntKind.i64.wrap (i+(1:Int)))))
    else
    (some (-1:Int))

def sO(c:aJ)(name:cX):Option Int:=
 qw c name fc (0:Int)

def pV(s:d7):Option cX:=
 if(!(s.As==([])))then
 (some s.As)
 else
 (some s.Table)

def gU(b:aB)(s:d7)(r:Int):List d7->Option (Int×aB)
 |[]=>
  (oT b.sources ([s])).bind fun l=>
  (oT b.out.Tables ([r])).bind fun l1=>
  some ((0:Int),({({b with sources:=l}:aB)with out:=({({b with sources:=l}:aB).out with Tables:=l1}:bb)}:aB))
 |e::tl=>
  (pV e).bind fun r1=>
  (pV s).bind fun r2=>
  if(r1==r2)then
  (some ((221:Int),b))
  else
  ((gU b s r tl))

def jE(b:aB)(s:d7):Option (Int×aB):=
 (sO b.c s.Table).bind fun r=>
 if(decide (r<(0:Int)))then
 (some ((220:Int),b))
 else
 (gU b s r b.sources)

def pp(nx:(List Int)->Option (List Int)):List cb->(List Int)->Option (List Int)
 |[],out1=>
  nx out1
 |e2::tl1,out1=>
  (oT out1 ([e2.Kind])).bind fun out2=>
  (pp nx tl1) out2

def lU(c:aJ):List Int->(List Int)->Option (List Int)
 |[],out=>
  some out
 |e::tl,out=>
  (fz c.Tables e).bind fun e1=>
  pp (lU c tl) e1.Columns out

def jQ(c:aJ)(tables:(List Int)):Option (List Int):=
 lU c tables ([]:List Int)

def ou(t:bU)(name:cX):Nat->Int->Option Int
  |0,_=>none
  |n+1,i=>
    if(decide (i<(t.Columns.length:Int)))then
    ((fz t.Columns i).bind fun e=>
    if(e.Name==name)then
    (some i)
    else
    ((ou t name n) (IntKind.i64.wrap (i+(1:Int)))))
    else
    (some (-1:Int))

def u0(t:bU)(name:cX):Option Int:=
 ou t name fc (0:Int)

def gV(nx:Nat->Int->Int->Int->Option (Int×Int))(i:Nat)(first:Int)(e2:bU)(found1:Int)(many1:Int):Option (Int×Int):=
 nx (i+1) found1 many1 (IntKind.i64.wrap (first+(e2.Columns.length:Int)))

def fb(b:aB)(table:cX)(name:cX):List d7->Nat->Int->Int->Int->Option (Int×Int)
  |[],i,found,many,first=>
    if(many==(0:Int))then
    (some ((0:Int),(222:Int)))
    else
    (if(many==(1:Int))then
    (some (found,(0:Int)))
    else
    (some ((0:Int),(223:Int))))
  |e::tl,i,found,many,first=>
    (fz b.out.Tables (i:Int)).bind fun e1=>
    (fz b.c.Tables e1).bind fun e2=>
    (u0 e2 name).bind fun r=>
    (if(decide ((0:Int)<=r))then((if(!(table==([])))then((pV e).bind fun r1=>
    some (table==r1))else some true).bind fun t1=>
    some t1)else some false).bind fun t=>
    if t then
    (gV (fb b table name tl) i first e2 (IntKind.i64.wrap (first+r)) (IntKind.i64.wrap (many+(1:Int))))
    else
    (gV (fb b table name tl) i first e2 found many)

def jF(b:aB)(table:cX)(name:cX):Option (Int×Int):=
 fb b table name b.sources 0 (0:Int) (0:Int) (0:Int)

def qy(nx1:aZ->Option aZ)(out1:aZ)(n1:aD):Option aZ:=
 (oT out1.Nodes ([n1])).bind fun l5=>
 nx1 ({out1 with Nodes:=l5}:aZ)

def tn(out:aZ)(nx1:aZ->Option aZ)(out1:aZ)(n:aD):Option aZ:=
 if(decide ((0:Int)<=n.R))then
 (qy nx1 out1 (aD.mk n.Tag n.L (IntKind.i64.wrap (n.R+(out.Nodes.length:Int))) n.Col n.Value))
 else
 (qy nx1 out1 n)

def eQ(nx:Nat->aD->aZ->Option aZ)(i:Nat)(root1:aD)(out:aZ):List aD->aZ->Option aZ
 |[],out1=>
  if((i:Int)==(0:Int))then
  (nx (i+1) (aD.mk root1.Tag (IntKind.i64.wrap ((out1.Nodes.length:Int)-(1:Int))) root1.R root1.Col root1.Value) out1)
  else
  (nx (i+1) (aD.mk root1.Tag root1.L (IntKind.i64.wrap ((out1.Nodes.length:Int)-(1:Int))) root1.Col root1.Value) out1)
 |e1::tl1,out1=>
  if(decide ((0:Int)<=e1.L))then
  (tn out (eQ nx i root1 out tl1) out1 (aD.mk e1.Tag (IntKind.i64.wrap (e1.L+(out.Nodes.length:Int))) e1.R e1.Col e1.Value))
  else
  (tn out (eQ nx i root1 out tl1) out1 e1)

def iz:List aZ->Nat->aD->aZ->Option aZ
 |[],i,root1,out=>
  (oT out.Nodes ([root1])).bind fun l2=>
  some ({out with Nodes:=l2}:aZ)
 |e::tl,i,root1,out=>
  eQ (iz tl) i root1 out e.Nodes out

def gv(root:aD)(l:(List aZ)):Option aZ:=
 iz l 0 (aD.mk root.Tag (-1:Int) (-1:Int) root.Col root.Value) ({(⟨[]⟩:aZ)with Nodes:=([]:List aD)}:aZ)

def wu(tag:Int):Option Int:=
  if((tag==(3:Int))||((decide ((8:Int)<=tag))&&(decide (tag<=(11:Int)))))then
  (some (-1:Int))
  else
  ((tW tag).bind fun r=>
  some r)

def jo(n:aD):Option Bool:=
  if(n.Tag==(1:Int))then
  ((tY n.Value).bind fun r=>
  some (r&&(n.Col==(0:Int))))
  else
  (if(n.Tag==(2:Int))then
  (some (((decide (n.Value=(⟨(0:Int),(0:Int),(0:Int),[]⟩:cJ)))&&(decide ((0:Int)<=n.Col)))&&(decide (n.Col<(16:Int)))))
  else
  (some ((decide (n.Value=(⟨(0:Int),(0:Int),(0:Int),[]⟩:cJ)))&&(n.Col==(0:Int)))))

def jn:Nat->aZ->Int->Option Int
  |0,_,_=>none
  |fu+1,e,place=>
    if((decide (place<(0:Int)))||(decide ((e.Nodes.length:Int)<=place)))then
    (some (0:Int))
    else
    ((fz e.Nodes place).bind fun e1=>
    (wu e1.Tag).bind fun r=>
    (if(!(decide (r<(0:Int))))then((jo e1).bind fun r1=>
    some (!r1))else some true).bind fun t=>
    if t then
    (some (0:Int))
    else
    (if(r==(0:Int))then
    (if((e1.L !=(-1:Int))||(e1.R !=(-1:Int)))then
    (some (0:Int))
    else
    (some (1:Int)))
    else
    (((jn fu) e (IntKind.i64.wrap (place-(1:Int)))).bind fun r2=>
    if(r2==(0:Int))then
    (some (0:Int))
    else
    (if(r==(1:Int))then
    (if((e1.L !=(IntKind.i64.wrap (place-(1:Int))))||(e1.R !=(-1:Int)))then
    (some (0:Int))
    else
    (some (IntKind.i64.wrap (r2+(1:Int)))))
    else
    (((jn fu) e (IntKind.i64.wrap ((IntKind.i64.wrap (place-(1:Int)))-r2))).bind fun r3=>
    if(((r3==(0:Int))||(e1.R !=(IntKind.i64.wrap (place-(1:Int)))))||(e1.L !=(IntKind.i64.wrap ((IntKind.i64.wrap (place-(1:Int)))-r2))))then
    (some (0:Int))
    else
    (some (IntKind.i64.wrap ((IntKind.i64.wrap (r3+r2))+(1:Int)))))))))

def BO(e:aZ)(place:Int):Option Int:=
 jn fc e place

def wt(e:aZ):Option Bool:=
  (if((decide ((1:Int)<=(e.Nodes.length:Int)))&&(decide ((e.Nodes.length:Int)<=(1000:Int))))then((BO e (IntKind.i64.wrap ((e.Nodes.length:Int)-(1:Int)))).bind fun r=>
  some (r==(e.Nodes.length:Int)))else some false).bind fun t=>
  some t

def q8(k:Int)(want:Int):Option Bool:=
 some ((k==want)||(k==(0:Int)))

def sP(tag:Int)(l:Int)(r:Int):Option (Int×Bool):=
  if((tag==(4:Int))||((decide ((12:Int)<=tag))&&(decide (tag<=(15:Int)))))then
  ((q8 l (2:Int)).bind fun r1=>
  (if r1 then((q8 r (2:Int)).bind fun r2=>
  some r2)else some false).bind fun t=>
  some ((2:Int),t))
  else
  (if((tag==(5:Int))||(decide ((22:Int)<=tag)))then
  ((q8 l (1:Int)).bind fun r3=>
  (if r3 then((q8 r (1:Int)).bind fun r4=>
  some r4)else some false).bind fun t1=>
  some ((1:Int),t1))
  else
  (if((tag==(6:Int))||(tag==(7:Int)))then
  (some ((1:Int),true))
  else
  (some ((1:Int),(((l==r)||(l==(0:Int)))||(r==(0:Int)))))))

def qA(nx2:(List Int)->Option (Int×Int))(e3:aD)(own:List Int)(e6:Int)(r1:Int):Option (Int×Int):=
  (sP e3.Tag e6 r1).bind fun r2=>
  if(!r2.2)then
  (some ((0:Int),(201:Int)))
  else
  ((oT own ([r2.1])).bind fun own3=>
  nx2 own3)

def dP(kinds:(List Int)):List aD->(List Int)->Option (Int×Int)
  |[],own=>
    (fz own (IntKind.i64.wrap ((own.length:Int)-(1:Int)))).bind fun e4=>
    some (e4,(0:Int))
  |e3::tl2,own=>
    if(e3.Tag==(1:Int))then
    ((oT own ([e3.Value.Kind])).bind fun own1=>
    (dP kinds tl2) own1)
    else
    (if(e3.Tag==(2:Int))then
    ((fz kinds e3.Col).bind fun e5=>
    (oT own ([e5])).bind fun own2=>
    (dP kinds tl2) own2)
    else
    ((fz own e3.L).bind fun e6=>
    if(decide ((0:Int)<=e3.R))then
    ((fz own e3.R).bind fun e7=>
    qA (dP kinds tl2) e3 own e6 e7)
    else
    (qA (dP kinds tl2) e3 own e6 (0:Int))))

def oJ(e:aZ)(kinds:(List Int)):List aD->Option (Int×Int)
 |[]=>
  dP kinds e.Nodes ([]:List Int)
 |e2::tl1=>
  if((e2.Tag==(2:Int))&&(decide ((kinds.length:Int)<=e2.Col)))then
  (some ((0:Int),(2:Int)))
  else
  ((oJ e kinds tl1))

def qz(e:aZ)(kinds:(List Int)):List Int->Option (Int×Int)
 |[]=>
  oJ e kinds e.Nodes
 |e1::tl=>
  if((decide (e1<(0:Int)))||(decide ((3:Int)<e1)))then
  (some ((0:Int),(2:Int)))
  else
  ((qz e kinds tl))

def q9(e:aZ)(kinds:(List Int)):Option (Int×Int):=
 (wt e).bind fun r=>
 if(!r)then
 (some ((0:Int),(200:Int)))
 else
 (qz e kinds kinds)

def qv(a1:lb)(kinds:(List Int)):Option (Int×Bool):=
  if(a1.Tag==(1:Int))then
  (some ((2:Int),true))
  else
  ((q9 a1.Arg kinds).bind fun r=>
  if((r.2 !=(0:Int))||(((a1.Tag==(3:Int))&&(r.1 !=(2:Int)))&&(r.1 !=(0:Int))))then
  (some ((0:Int),false))
  else
  (if((a1.Tag==(2:Int))||(a1.Tag==(3:Int)))then
  (some ((2:Int),true))
  else
  (some (r.1,true))))

def jG(r:(List Int)):List lb->(List Int)->Option (List Int)
 |[],out1=>
  some out1
 |e1::tl1,out1=>
  (qv e1 r).bind fun r1=>
  (oT out1 ([r1.1])).bind fun out2=>
  (jG r tl1) out2

def jH(s:bb)(r:(List Int)):List Int->(List Int)->Option (List Int)
 |[],out=>
  jG r s.Aggs out
 |e::tl,out=>
  (fz r e).bind fun e2=>
  (oT out ([e2])).bind fun out3=>
  (jH s r tl) out3

def iT(c:aJ)(s:bb):Option (List Int):=
 (jQ c s.Tables).bind fun r=>
 jH s r s.Keys ([]:List Int)

def kT(tag:Int):Option Bool:=
 some ((tag==(3:Int))||((decide ((8:Int)<=tag))&&(decide (tag<=(11:Int)))))

def qx(b:aZ):List aD->Nat->Option Bool
 |[],i=>
  some true
 |e::tl,i=>
  (fz b.Nodes (i:Int)).bind fun e1=>
  if(!decide (e=e1))then
  (some false)
  else
  ((qx b tl) (i+1))

def lV(a1:aZ)(b:aZ):Option Bool:=
 if((a1.Nodes.length:Int) !=(b.Nodes.length:Int))then
 (some false)
 else
 (qx b a1.Nodes 0)

def lh(at1:Int)(ob:aB):Option (aZ×Int×aB):=
  if(decide ((12:Int)<(ob.out.Aggs.length:Int)))then
  (some ((⟨[]⟩:aZ),(228:Int),ob))
  else
  ((gv (⟨(2:Int),(0:Int),(0:Int),(IntKind.i64.wrap ((ob.out.Keys.length:Int)+at1)),(⟨(0:Int),(0:Int),(0:Int),[]⟩:cJ)⟩:aD) ([])).bind fun r2=>
  some (r2,(0:Int),ob))

def fx(b:aB)(a1:lb):List lb->Nat->Int->Option (aZ×Int×aB)
  |[],i,at1=>
    if(at1==(b.out.Aggs.length:Int))then
    ((oT b.out.Aggs ([a1])).bind fun l6=>
    lh at1 ({b with out:=({b.out with Aggs:=l6}:bb)}:aB))
    else
    (lh at1 b)
  |e::tl,i,at1=>
    (if(e.Tag==a1.Tag)then((lV e.Arg a1.Arg).bind fun r3=>
    some r3)else some false).bind fun t=>
    if t then
    ((fx b a1 tl) (i+1) (i:Int))
    else
    ((fx b a1 tl) (i+1) at1)

def nf(b:aB)(a1:lb):Option (aZ×Int×aB):=
 (jQ b.c b.out.Tables).bind fun r=>
 (qv a1 r).bind fun r1=>
 if(!r1.2)then
 (some ((⟨[]⟩:aZ),(201:Int),b))
 else
 (fx b a1 b.out.Aggs 0 (b.out.Aggs.length:Int))

def uZ(tag:Int):Option Int:=
  if(tag==(3:Int))then
  (some (1:Int))
  else
  (if(tag==(8:Int))then
  (some (2:Int))
  else
  (if(tag==(9:Int))then
  (some (3:Int))
  else
  (if(tag==(10:Int))then
  (some (4:Int))
  else
  (some (5:Int)))))

def gK(b:aB)(r1:Int×Int)(at1:Int)(x:aZ):Option (aZ×Int×aB):=
 (gv (⟨(2:Int),(0:Int),(0:Int),at1,(⟨(0:Int),(0:Int),(0:Int),[]⟩:cJ)⟩:aD) ([])).bind fun r2=>
 some (r2,r1.2,b)

def dM(b:aB)(r1:Int×Int):Nat->Int->Int->Option (aZ×Int×aB)
  |0,_,_=>none
  |n+1,own,i1=>
    if(decide ((0:Int)<=i1))then
    ((fz b.out.Keys i1).bind fun e1=>
    if(e1==r1.1)then
    ((dM b r1 n) i1 (IntKind.i64.wrap (i1-(1:Int))))
    else
    ((dM b r1 n) own (IntKind.i64.wrap (i1-(1:Int)))))
    else
    (if(decide (own<(0:Int)))then
    (some ((⟨[]⟩:aZ),(225:Int),b))
    else
    (gK b r1 own (⟨[]⟩:aZ)))

def gJ(e:dj)(arg:aZ)(ob:aB)(e3:Int):Option (aZ×Int×aB):=
  if(e3 !=(0:Int))then
  (some ((⟨[]⟩:aZ),e3,ob))
  else
  ((uZ e.Tag).bind fun r4=>
  (nf ob (⟨r4,arg⟩:lb)).bind fun r5=>
  some (r5.1,r5.2.1,r5.2.2))

def iR(group:Bool)(e:dj)(e2:Int)(arg:aZ)(ob:aB):Option (aZ×Int×aB):=
 if((e2==(0:Int))&&(!group))then
 (gJ e arg ob (224:Int))
 else
 (gJ e arg ob e2)

def mB(out:aZ)(ob1:aB)(kinds:(List Int)):Option (aZ×Int×aB):=
 (q9 out kinds).bind fun r10=>
 some (out,r10.2,ob1)

def iQ(group:Bool)(x1:aZ)(out:aZ)(ob1:aB):Option (aZ×Int×aB):=
  (jQ ob1.c ob1.out.Tables).bind fun r9=>
  if group then
  ((iT ob1.c ob1.out).bind fun r11=>
  mB out ob1 r11)
  else
  (mB out ob1 r9)

def cC:Nat->aB->db->Int->Bool->Option (aZ×Int×aB)
  |0,_,_,_,_=>none
  |fu+1,b,t,place,group=>
    (fz t.Nodes place).bind fun e=>
    if(e.Tag==(1:Int))then
    ((gv (⟨(1:Int),(0:Int),(0:Int),(0:Int),e.Value⟩:aD) ([])).bind fun r=>
    some (r,(0:Int),b))
    else
    (if(e.Tag==(2:Int))then
    ((jF b e.Table e.Name).bind fun r1=>
    if((r1.2==(0:Int))&&group)then
    (dM b r1 fc (-1:Int) (IntKind.i64.wrap ((b.out.Keys.length:Int)-(1:Int))))
    else
    (gK b r1 r1.1 (⟨[]⟩:aZ)))
    else
    ((kT e.Tag).bind fun r3=>
    if r3 then
    (if(decide ((0:Int)<=e.L))then
    (((cC fu) b t e.L false).bind fun r6=>
    iR group e r6.2.1 r6.1 r6.2.2)
    else
    (iR group e (0:Int) (⟨[]⟩:aZ) b))
    else
    (((cC fu) b t e.L group).bind fun r7=>
    if(r7.2.1 !=(0:Int))then
    (some ((⟨[]⟩:aZ),r7.2.1,r7.2.2))
    else
    ((gv (⟨e.Tag,(0:Int),(0:Int),(0:Int),(⟨(0:Int),(0:Int),(0:Int),[]⟩:cJ)⟩:aD) ([r7.1])).bind fun r8=>
    if(decide ((0:Int)<=e.R))then
    (((cC fu) r7.2.2 t e.R group).bind fun r12=>
    if(r12.2.1 !=(0:Int))then
    (some ((⟨[]⟩:aZ),r12.2.1,r12.2.2))
    else
    ((gv (⟨e.Tag,(0:Int),(0:Int),(0:Int),(⟨(0:Int),(0:Int),(0:Int),[]⟩:cJ)⟩:aD) ([r7.1,r12.1])).bind fun r13=>
    iQ group (⟨[]⟩:aZ) r13 r12.2.2))
    else
    (iQ group (⟨[]⟩:aZ) r8 r7.2.2)))))

def rR(b:aB)(t:db)(place:Int)(group:Bool):Option (aZ×Int×aB):=
 cC fc b t place group

def j5(b:aB)(t:db)(group:Bool):Option (aZ×Int×aB):=
 (rR b t (IntKind.i64.wrap ((t.Nodes.length:Int)-(1:Int))) group).bind fun r=>
 if(r.2.1 !=(0:Int))then
 (some ((⟨[]⟩:aZ),r.2.1,r.2.2))
 else
 (some (r.1,(0:Int),r.2.2))

def gq(r:aZ×Int×aB)(kinds:(List Int)):Option (aZ×Int×aB):=
 (q9 r.1 kinds).bind fun r2=>
 if((r2.1 !=(1:Int))&&(r2.1 !=(0:Int)))then
 (some ((⟨[]⟩:aZ),(226:Int),r.2.2))
 else
 (some (r.1,(0:Int),r.2.2))

def iK(b:aB)(t:db)(group:Bool):Option (aZ×Int×aB):=
  (j5 b t group).bind fun r=>
  if(r.2.1 !=(0:Int))then
  (some (r.1,r.2.1,r.2.2))
  else
  ((jQ r.2.2.c r.2.2.out.Tables).bind fun r1=>
  if group then
  ((iT r.2.2.c r.2.2.out).bind fun r3=>
  gq r r3)
  else
  (gq r r1))

def iS:List jY->aB->Option (Int×Int×aB)
  |[],ob2=>
    some ((0:Int),(0:Int),ob2)
  |e1::tl1,ob2=>
    (jF ob2 e1.Table e1.Name).bind fun r1=>
    if(r1.2 !=(0:Int))then
    (some ((3:Int),r1.2,ob2))
    else
    ((oT ob2.out.Keys ([r1.1])).bind fun l18=>
    (iS tl1) ({ob2 with out:=({ob2.out with Keys:=l18}:bb)}:aB))

def po(s:aK)(ob1:aB):Option (Int×Int×aB):=
 iS s.Group ob1

def dv(s:aK):List mZ->aB->Option (Int×Int×aB)
  |[],ob=>
    if(decide ((0:Int)<(s.Where.Nodes.length:Int)))then
    ((iK ob s.Where false).bind fun r2=>
    if(r2.2.1 !=(0:Int))then
    (some ((2:Int),r2.2.1,r2.2.2))
    else
    (po s ({r2.2.2 with out:=({r2.2.2.out with Where:=r2.1}:bb)}:aB)))
    else
    (po s ob)
  |e::tl,ob=>
    (jE ob e.Source).bind fun r3=>
    if(r3.1 !=(0:Int))then
    (some ((1:Int),r3.1,r3.2))
    else
    ((iK r3.2 e.On false).bind fun r4=>
    if(r4.2.1 !=(0:Int))then
    (some ((1:Int),r4.2.1,r4.2.2))
    else
    ((oT r4.2.2.out.Joins ([(⟨e.Left,r4.1⟩:la)])).bind fun l20=>
    (dv s tl) ({r4.2.2 with out:=({r4.2.2.out with Joins:=l20}:bb)}:aB)))

def oY(b:aB)(s:aK):Option (Int×Int×aB):=
 (jE b s.From).bind fun r=>
 if(r.1 !=(0:Int))then
 (some ((0:Int),r.1,r.2))
 else
 (dv s s.Joins r.2)

def rQ:List dj->Option Bool
 |[]=>
  some false
 |e::tl=>
  (kT e.Tag).bind fun r=>
  if r then
  (some true)
  else
  ((rQ tl))

def DZ(t:db):Option Bool:=
 rQ t.Nodes

def lG:List fK->Bool->Option Bool
  |[],out=>
    some out
  |e::tl,out=>
    (if(!out)then((DZ e.Tree).bind fun r=>
    some r)else some true).bind fun t=>
    (lG tl) t

def tk(s:aK):Option Bool:=
 lG s.Items ((decide ((0:Int)<(s.Group.length:Int)))||(decide ((0:Int)<(s.Having.Nodes.length:Int))))

def oS(ob2:aB):Option (Int×Int×aB):=
 some ((0:Int),(0:Int),ob2)

def dy(s:aK):List fK->aB->Option (Int×Int×aB)
  |[],ob1=>
    if(decide ((0:Int)<(s.Having.Nodes.length:Int)))then
    ((iK ob1 s.Having true).bind fun r1=>
    if(r1.2.1 !=(0:Int))then
    (some ((5:Int),r1.2.1,r1.2.2))
    else
    (oS ({r1.2.2 with out:=({r1.2.2.out with Having:=r1.1}:bb)}:aB)))
    else
    (oS ob1)
  |e::tl,ob1=>
    (j5 ob1 e.Tree ob1.out.Grouped).bind fun r2=>
    if(r2.2.1 !=(0:Int))then
    (some ((4:Int),r2.2.1,r2.2.2))
    else
    ((oT r2.2.2.out.Items ([r2.1])).bind fun l18=>
    (dy s tl) ({r2.2.2 with out:=({r2.2.2.out with Items:=l18}:bb)}:aB))

def gu(s:aK)(ob:aB):Option (Int×Int×aB):=
 dy s s.Items ob

def jW(s:aK):List Int->Nat->aB->Option (Int×Int×aB)
 |[],i5,ob3=>
  gu s ob3
 |e1::tl1,i5,ob3=>
  (gv (⟨(2:Int),(0:Int),(0:Int),(i5:Int),(⟨(0:Int),(0:Int),(0:Int),[]⟩:cJ)⟩:aD) ([])).bind fun r4=>
  (oT ob3.out.Items ([r4])).bind fun l25=>
  (jW s tl1) (i5+1) ({ob3 with out:=({ob3.out with Items:=l25}:bb)}:aB)

def j4(b:aB)(s:aK):Option (Int×Int×aB):=
  (tk s).bind fun r=>
  if s.Star then
  (if((({({b with out:=({b.out with Grouped:=r}:bb)}:aB)with out:=({({b with out:=({b.out with Grouped:=r}:bb)}:aB).out with Distinct:=s.Distinct}:bb)}:aB).out).Grouped)then
  (some ((4:Int),(227:Int),({({b with out:=({b.out with Grouped:=r}:bb)}:aB)with out:=({({b with out:=({b.out with Grouped:=r}:bb)}:aB).out with Distinct:=s.Distinct}:bb)}:aB)))
  else
  ((jQ (({({b with out:=({b.out with Grouped:=r}:bb)}:aB)with out:=({({b with out:=({b.out with Grouped:=r}:bb)}:aB).out with Distinct:=s.Distinct}:bb)}:aB).c) b.out.Tables).bind fun r3=>
  jW s r3 0 ({({b with out:=({b.out with Grouped:=r}:bb)}:aB)with out:=({({b with out:=({b.out with Grouped:=r}:bb)}:aB).out with Distinct:=s.Distinct}:bb)}:aB)))
  else
  (gu s ({({b with out:=({b.out with Grouped:=r}:bb)}:aB)with out:=({({b with out:=({b.out with Grouped:=r}:bb)}:aB).out with Distinct:=s.Distinct}:bb)}:aB))

def j6(kinds:(List Int)):List aZ->(List Int)->Option (List Int)
 |[],out=>
  some out
 |e::tl,out=>
  (q9 e kinds).bind fun r1=>
  (oT out ([r1.1])).bind fun out1=>
  (j6 kinds tl) out1

def nQ(s:bb)(kinds:(List Int)):Option (List Int):=
 j6 kinds s.Items ([]:List Int)

def ot(c:aJ)(s:bb):Option (List Int):=
  (jQ c s.Tables).bind fun r=>
  if s.Grouped then
  ((iT c s).bind fun r2=>
  nQ s r2)
  else
  (nQ s r)

def rP(nx:(List cX)->Option (List cX))(out1:List cX)(own:cX):Option (List cX):=
 (oT out1 ([own])).bind fun out2=>
 nx out2

def kq:List fK->(List cX)->Option (List cX)
 |[],out1=>
  some out1
 |e::tl,out1=>
  (fz e.Tree.Nodes (IntKind.i64.wrap ((e.Tree.Nodes.length:Int)-(1:Int)))).bind fun e1=>
  if((e.As==([]))&&(e1.Tag==(2:Int)))then
  (rP (kq tl) out1 e1.Name)
  else
  (rP (kq tl) out1 e.As)

def pn(s:aK)(out:List cX):Option (List cX):=
 kq s.Items out

def ne(nx1:(List cX)->Option (List cX)):List cb->(List cX)->Option (List cX)
 |[],out4=>
  nx1 out4
 |e4::tl2,out4=>
  (oT out4 ([e4.Name])).bind fun out5=>
  (ne nx1 tl2) out5

def lT(c:aJ)(s:aK):List Int->(List cX)->Option (List cX)
 |[],out3=>
  pn s out3
 |e2::tl1,out3=>
  (fz c.Tables e2).bind fun e3=>
  ne (lT c s tl1) e3.Columns out3

def tU(c:aJ)(s:aK)(tables:(List Int)):Option (List cX):=
 if s.Star then
 (lT c s tables ([]:List cX))
 else
 (pn s ([]:List cX))

def qO(b:(List Int))(nx:Nat->(List Int)->Option ((List Int)×Bool))(i:Nat)(out:List Int)(k:Int):Option ((List Int)×Bool):=
  (fz b (i:Int)).bind fun e1=>
  if((e1 !=(0:Int))&&(e1 !=k))then
  (some ([],false))
  else
  ((oT out ([k])).bind fun out1=>
  nx (i+1) out1)

def jP(b:(List Int)):List Int->Nat->(List Int)->Option ((List Int)×Bool)
  |[],i,out=>
    some (out,true)
  |e::tl,i,out=>
    if(e==(0:Int))then
    ((fz b (i:Int)).bind fun e2=>
    qO b (jP b tl) i out e2)
    else
    (qO b (jP b tl) i out e)

def rO(a1:(List Int))(b:(List Int)):Option ((List Int)×Bool):=
 if((a1.length:Int) !=(b.length:Int))then
 (some ([],false))
 else
 (jP b a1 0 ([]:List Int))

def fa(k:sC):List cX->Nat->Int->Int->Option (Int×Int)
  |[],i,found,many=>
    if(many==(0:Int))then
    (some ((0:Int),(222:Int)))
    else
    (if(many==(1:Int))then
    (some (found,(0:Int)))
    else
    (some ((0:Int),(223:Int))))
  |e::tl,i,found,many=>
    if(e==k.Name)then
    ((fa k tl) (i+1) (i:Int) (IntKind.i64.wrap (many+(1:Int))))
    else
    ((fa k tl) (i+1) found many)

def Aq(k:sC)(names:(List cX)):Option (Int×Int):=
  if(k.Name==([]))then
  (if((decide (k.Number<(1:Int)))||(decide ((names.length:Int)<k.Number)))then
  (some ((0:Int),(222:Int)))
  else
  (some ((IntKind.i64.wrap (k.Number-(1:Int))),(0:Int))))
  else
  (fa k names 0 (0:Int) (0:Int))

def qt:List sC->bz->bz->Option (bz×Int×Int)
  |[],x1,out1=>
    some (out1,(0:Int),(0:Int))
  |e1::tl1,x1,out1=>
    (Aq e1 out1.Names).bind fun r2=>
    if(r2.2 !=(0:Int))then
    (some ((⟨[],[],[],[],(0:Int)⟩:bz),(90:Int),r2.2))
    else
    ((oT out1.Order ([(⟨r2.1,e1.Desc⟩:ze)])).bind fun l4=>
    (qt tl1) x1 ({out1 with Order:=l4}:bz))

def qu(nx:Nat->bz->bz->Option (bz×Int×Int))(i:Nat)(out:bz)(ob:aB)(x2:bz)(out2:bz):Option (bz×Int×Int):=
 (oT out2.Selects ([ob.out])).bind fun l14=>
 nx (i+1) x2 ({out2 with Selects:=l14}:bz)

def mP(c:aJ)(nx:Nat->bz->bz->Option (bz×Int×Int))(i:Nat)(e:aK)(x:bz)(out:bz)(at1:Int)(e2:Int)(ob:aB):Option (bz×Int×Int):=
  if(e2 !=(0:Int))then
  (some ((⟨[],[],[],[],(0:Int)⟩:bz),(IntKind.i64.wrap ((IntKind.i64.wrap ((10:Int)*(i:Int)))+at1)),e2))
  else
  ((ot c ob.out).bind fun r4=>
  if((i:Int)==(0:Int))then
  ((tU c e ob.out.Tables).bind fun r5=>
  qu nx i out ob x ({({({({out with Names:=r5}:bz)with Kinds:=r4}:bz)with Selects:=out.Selects}:bz)with Order:=out.Order}:bz))
  else
  ((rO out.Kinds r4).bind fun r6=>
  if(!r6.2)then
  (some ((⟨[],[],[],[],(0:Int)⟩:bz),(IntKind.i64.wrap ((IntKind.i64.wrap ((10:Int)*(i:Int)))+(6:Int))),(229:Int)))
  else
  (qu nx i out ob x ({({({out with Kinds:=r6.1}:bz)with Selects:=out.Selects}:bz)with Order:=out.Order}:bz))))

def iy(c:aJ)(q:ce):List aK->Nat->bz->bz->Option (bz×Int×Int)
  |[],i,x,out=>
    qt q.Keys x out
  |e::tl,i,x,out=>
    (oY (⟨c,[],(⟨[],[],(⟨[]⟩:aZ),(⟨[]⟩:aZ),false,false,[],[],[]⟩:bb)⟩:aB) e).bind fun r3=>
    if(r3.2.1==(0:Int))then
    ((j4 r3.2.2 e).bind fun r7=>
    mP c (iy c q tl) i e x out r7.1 r7.2.1 r7.2.2)
    else
    (mP c (iy c q tl) i e x out r3.1 r3.2.1 r3.2.2)

def xZ(c:aJ)(q:ce):Option (bz×Int×Int):=
  (wr c).bind fun r=>
  if(!r)then
  (some ((⟨[],[],[],[],(0:Int)⟩:bz),(0:Int),(210:Int)))
  else
  ((wv q).bind fun r1=>
  if(!r1)then
  (some ((⟨[],[],[],[],(0:Int)⟩:bz),(0:Int),(180:Int)))
  else
  (iy c q q.Selects 0 (⟨[],[],[],[],(0:Int)⟩:bz) ({({(⟨[],[],[],[],q.Limit⟩:bz)with Selects:=([]:List bb)}:bz)with Order:=([]:List ze)}:bz)))

def oX(b:(List Int)):List Int->Nat->Option Bool
 |[],i=>
  some true
 |e::tl,i=>
  (fz b (i:Int)).bind fun e1=>
  if(e !=e1)then
  (some false)
  else
  ((oX b tl) (i+1))

def nd(a1:(List Int))(b:(List Int)):Option Bool:=
 if((a1.length:Int) !=(b.length:Int))then
 (some false)
 else
 (oX b a1 0)

def pX(b:(List aZ)):List aZ->Nat->Option Bool
 |[],i=>
  some true
 |e::tl,i=>
  (fz b (i:Int)).bind fun e1=>
  (lV e e1).bind fun r=>
  if(!r)then
  (some false)
  else
  ((pX b tl) (i+1))

def tm(a1:(List aZ))(b:(List aZ)):Option Bool:=
 if((a1.length:Int) !=(b.length:Int))then
 (some false)
 else
 (pX b a1 0)

def ij(a1:bb)(b:bb):List lb->Nat->Option Bool
  |[],i1=>
    (nd a1.Tables b.Tables).bind fun r=>
    (if r then((nd a1.Keys b.Keys).bind fun r1=>
    some r1)else some false).bind fun t=>
    (if t then((lV a1.Where b.Where).bind fun r2=>
    some r2)else some false).bind fun t1=>
    (if t1 then((lV a1.Having b.Having).bind fun r3=>
    some r3)else some false).bind fun t2=>
    (if t2 then((tm a1.Items b.Items).bind fun r4=>
    some r4)else some false).bind fun t3=>
    some t3
  |e1::tl1,i1=>
    (fz b.Aggs (i1:Int)).bind fun e2=>
    (if(!(e1.Tag !=e2.Tag))then((lV e1.Arg e2.Arg).bind fun r5=>
    some (!r5))else some true).bind fun t4=>
    if t4 then
    (some false)
    else
    ((ij a1 b tl1) (i1+1))

def jD(a1:bb)(b:bb):List la->Nat->Option Bool
  |[],i=>
    ij a1 b a1.Aggs 0
  |e::tl,i=>
    (fz b.Joins (i:Int)).bind fun e3=>
    (if(!(e.Left !=e3.Left))then((lV e.On e3.On).bind fun r6=>
    some (!r6))else some true).bind fun t5=>
    if t5 then
    (some false)
    else
    ((jD a1 b tl) (i+1))

def pU(a1:bb)(b:bb):Option Bool:=
 if((((a1.Grouped !=b.Grouped)||(a1.Distinct !=b.Distinct))||((a1.Joins.length:Int) !=(b.Joins.length:Int)))||((a1.Aggs.length:Int) !=(b.Aggs.length:Int)))then
 (some false)
 else
 (jD a1 b a1.Joins 0)

def oG(b:bz):List ze->Nat->Option Bool
 |[],i2=>
  some true
 |e2::tl2,i2=>
  (fz b.Order (i2:Int)).bind fun e3=>
  if(!decide (e2=e3))then
  (some false)
  else
  ((oG b tl2) (i2+1))

def oH(a1:bz)(b:bz):List cX->Nat->Option Bool
 |[],i1=>
  oG b a1.Order 0
 |e1::tl1,i1=>
  (fz b.Names (i1:Int)).bind fun e4=>
  if(!(e1==e4))then
  (some false)
  else
  ((oH a1 b tl1) (i1+1))

def qr(a1:bz)(b:bz):List bb->Nat->Option Bool
 |[],i=>
  oH a1 b a1.Names 0
 |e::tl,i=>
  (fz b.Selects (i:Int)).bind fun e5=>
  (pU e e5).bind fun r1=>
  if(!r1)then
  (some false)
  else
  ((qr a1 b tl) (i+1))

def xY(a1:bz)(b:bz):Option Bool:=
  (if(!((((a1.Limit !=b.Limit)||((a1.Selects.length:Int) !=(b.Selects.length:Int)))||((a1.Names.length:Int) !=(b.Names.length:Int)))||((a1.Order.length:Int) !=(b.Order.length:Int))))then((nd a1.Kinds b.Kinds).bind fun r=>
  some (!r))else some true).bind fun t=>
  if t then
  (some false)
  else
  (qr a1 b a1.Selects 0)

def oZ(b:db):List dj->Nat->Option Bool
 |[],i=>
  some true
 |e::tl,i=>
  (fz b.Nodes (i:Int)).bind fun e1=>
  if(!decide (e=e1))then
  (some false)
  else
  ((oZ b tl) (i+1))

def jq(a1:db)(b:db):Option Bool:=
 if((a1.Nodes.length:Int) !=(b.Nodes.length:Int))then
 (some false)
 else
 (oZ b a1.Nodes 0)

def lk(a1:aK)(b:aK):List jY->Nat->Option Bool
  |[],i2=>
    (jq a1.Where b.Where).bind fun r=>
    (if r then((jq a1.Having b.Having).bind fun r1=>
    some r1)else some false).bind fun t=>
    some t
  |e2::tl2,i2=>
    (fz b.Group (i2:Int)).bind fun e3=>
    if(!decide (e2=e3))then
    (some false)
    else
    ((lk a1 b tl2) (i2+1))

def ll(a1:aK)(b:aK):List mZ->Nat->Option Bool
  |[],i1=>
    lk a1 b a1.Group 0
  |e1::tl1,i1=>
    (fz b.Joins (i1:Int)).bind fun e4=>
    (if(!((e1.Left !=e4.Left)||(!decide (e1.Source=e4.Source))))then((jq e1.On e4.On).bind fun r2=>
    some (!r2))else some true).bind fun t1=>
    if t1 then
    (some false)
    else
    ((ll a1 b tl1) (i1+1))

def m5(a1:aK)(b:aK):List fK->Nat->Option Bool
  |[],i=>
    ll a1 b a1.Joins 0
  |e::tl,i=>
    (fz b.Items (i:Int)).bind fun e5=>
    (if(!(!(e.As==e5.As)))then((jq e.Tree e5.Tree).bind fun r3=>
    some (!r3))else some true).bind fun t2=>
    if t2 then
    (some false)
    else
    ((m5 a1 b tl) (i+1))

def pY(a1:aK)(b:aK):Option Bool:=
 if((((((a1.Distinct !=b.Distinct)||(a1.Star !=b.Star))||(!decide (a1.From=b.From)))||((a1.Items.length:Int) !=(b.Items.length:Int)))||((a1.Joins.length:Int) !=(b.Joins.length:Int)))||((a1.Group.length:Int) !=(b.Group.length:Int)))then
 (some false)
 else
 (m5 a1 b a1.Items 0)

def qC(b:ce):List sC->Nat->Option Bool
 |[],i1=>
  some true
 |e1::tl1,i1=>
  (fz b.Keys (i1:Int)).bind fun e2=>
  if(!decide (e1=e2))then
  (some false)
  else
  ((qC b tl1) (i1+1))

def tt(a1:ce)(b:ce):List aK->Nat->Option Bool
 |[],i=>
  qC b a1.Keys 0
 |e::tl,i=>
  (fz b.Selects (i:Int)).bind fun e3=>
  (pY e e3).bind fun r=>
  if(!r)then
  (some false)
  else
  ((tt a1 b tl) (i+1))

def yb(a1:ce)(b:ce):Option Bool:=
 if(((a1.Limit !=b.Limit)||((a1.Selects.length:Int) !=(b.Selects.length:Int)))||((a1.Keys.length:Int) !=(b.Keys.length:Int)))then
 (some false)
 else
 (tt a1 b a1.Selects 0)

def gL(a1:bU)(b:bU):Nat->Int->Option Bool
  |0,_=>none
  |n1+1,i1=>
    if(decide (i1<(a1.Keys.length:Int)))then
    ((fz a1.Keys i1).bind fun e2=>
    (fz b.Keys i1).bind fun e3=>
    if(e2 !=e3)then
    (some false)
    else
    ((gL a1 b n1) (IntKind.i64.wrap (i1+(1:Int)))))
    else
    (some true)

def gM(a1:bU)(b:bU):Nat->Int->Option Bool
  |0,_=>none
  |n+1,i=>
    if(decide (i<(a1.Columns.length:Int)))then
    ((fz a1.Columns i).bind fun e=>
    (fz b.Columns i).bind fun e1=>
    if(!decide (e=e1))then
    (some false)
    else
    ((gM a1 b n) (IntKind.i64.wrap (i+(1:Int)))))
    else
    (gL a1 b fc (0:Int))

def qP(a1:bU)(b:bU):Option Bool:=
 if(((!(a1.Name==b.Name))||((a1.Columns.length:Int) !=(b.Columns.length:Int)))||((a1.Keys.length:Int) !=(b.Keys.length:Int)))then
 (some false)
 else
 (gM a1 b fc (0:Int))

def lB(a1:aJ)(b:aJ):Nat->Int->Option Bool
  |0,_=>none
  |n+1,i=>
    if(decide (i<(a1.Tables.length:Int)))then
    ((fz a1.Tables i).bind fun e=>
    (fz b.Tables i).bind fun e1=>
    (qP e e1).bind fun r=>
    if(!r)then
    (some false)
    else
    ((lB a1 b n) (IntKind.i64.wrap (i+(1:Int)))))
    else
    (some true)

def vL(a1:aJ)(b:aJ):Option Bool:=
 if((a1.Tables.length:Int) !=(b.Tables.length:Int))then
 (some false)
 else
 (lB a1 b fc (0:Int))

def sd:Option Bool:=
 some true

def mF(p:aJ)(r1:aJ):List ce->Nat->Option Bool
  |[],i=>
    sd
  |e::tl,i=>
    if((i:Int)==(6:Int))then
    (sd)
    else
    ((vn e).bind fun r2=>
    (vr r1 r2).bind fun r3=>
    (vn e).bind fun r4=>
    (xZ r1 r4).bind fun r5=>
    (if(!((r3.2.2 !=r5.2.2)||(r3.2.1 !=r5.2.1)))then((xY r3.1 r5.1).bind fun r6=>
    some (!r6))else some true).bind fun t=>
    (if(!t)then((vn e).bind fun r7=>
    (yb r2 r7).bind fun r8=>
    some (!r8))else some true).bind fun t1=>
    (if(!t1)then((ub p).bind fun r9=>
    (vL r1 r9).bind fun r10=>
    some (!r10))else some true).bind fun t2=>
    if t2 then
    (some false)
    else
    ((mF p r1 tl) (i+1)))

def vT(p:aJ)(l:(List ce)):Option Bool:=
  (zL).bind fun r=>
  if(!r)then
  (some false)
  else
  ((ub p).bind fun r1=>
  mF p r1 l 0)

def mT(nx:(List Int)->Option (List Int)):List cb->(List Int)->Option (List Int)
 |[],out1=>
  nx out1
 |e2::tl1,out1=>
  (oT out1 ([e2.Kind])).bind fun out2=>
  (mT nx tl1) out2

def lE(c:aJ):List Int->(List Int)->Option (List Int)
 |[],out=>
  some out
 |e::tl,out=>
  (fz c.Tables e).bind fun e1=>
  mT (lE c tl) e1.Columns out

def Cd(c:aJ)(tables:(List Int)):Option (List Int):=
 lE c tables ([]:List Int)

end Go.Proofs.YthbdkceckjihgaaGreatDoor

