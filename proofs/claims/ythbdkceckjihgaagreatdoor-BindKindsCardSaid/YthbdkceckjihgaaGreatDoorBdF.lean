/- cm of this claim: F. -/
import Derived.Test.YthbdkceckjihgaaGreatDoorBdD
import Derived.Test.YthbdkceckjihgaaGreatDoorBdV4
import Derived.Lib.MapU
set_option linter.all false
namespace Go.Proofs.YthbdkceckjihgaaGreatDoor
open Go

def sH(c:Int):Option Bool:=
 some ((decide ((97:Int)<=c))&&(decide (c<=(122:Int))))

def cX(v:cB):List cB->Nat->Option Int
 |[],i=>
  some (-1:Int)
 |e::tl,i=>
  if(v==e)then
  (some (i:Int))
  else
  ((cX v tl) (i+1))

def ed(s:(List cB))(v:cB):Option Int:=
 cX v s 0

def eo(s:(List cB))(v:cB):Option Bool:=
 (ed s v).bind fun r=>
 some (decide ((0:Int)<=r))

def tf(s:cB):Option Bool:=
 (eo Vq s).bind fun r=>
 some r

def iQ(s:cB):Option cB:=if s.length<35184372088832 then some (Lib.toUpperD s)else none

def vI(c:Int):Option Bool:=
 some ((decide ((48:Int)<=c))&&(decide (c<=(57:Int))))

def m8:List (Int×Int)->Option Bool
  |[]=>
    some true
  |e::tl=>
    (vI e.2).bind fun r3=>
    (if(!r3)then((sH e.2).bind fun r4=>
    some (!r4))else some false).bind fun t2=>
    if(t2&&(e.2 !=(95:Int)))then
    (some false)
    else
    ((m8 tl))

def jC(s:cB):Option Bool:=
  (if(!((s==([]))||(decide ((16:Int)<(s.length:Int)))))then((CS s (0:Int)).bind fun b=>
  (sH (IntKind.i32.wrap b)).bind fun r=>
  some (!r))else some true).bind fun t=>
  (if(!t)then((iQ s).bind fun r1=>
  (tf r1).bind fun r2=>
  some r2)else some true).bind fun t1=>
  if t1 then
  (some false)
  else
  (m8 (Ht s))

def cq(f:(bp->Option Bool)):List bp->Nat->Option Int
 |[],i=>
  some (-1:Int)
 |e::tl,i=>
  (f e).bind fun r=>
  if r then
  (some (i:Int))
  else
  ((cq f tl) (i+1))

def fc(s:(List bp))(f:(bp->Option Bool)):Option Int:=
 cq f s 0

def eu(of:(bp->Option cB))(name:cB)(p:bp):Option Bool:=
 (of p).bind fun r=>
 some (r==name)

def iI(l:(List bp))(of:(bp->Option cB))(name:cB):Option (Int×Bool):=
 (fc l (eu of name)).bind fun r=>
 some ((max r (0:Int)),decide ((0:Int)<=r))

def fh(l:(List bp))(of:(bp->Option cB)):List bp->Nat->Option Bool
  |[],i=>
    some true
  |e::tl,i=>
    (of e).bind fun r=>
    (iI l of r).bind fun r1=>
    (if(!(r1.1 !=(i:Int)))then((of e).bind fun r2=>
    (jC r2).bind fun r3=>
    some (!r3))else some true).bind fun t=>
    if t then
    (some false)
    else
    ((fh l of tl) (i+1))

def kF(l:(List bp))(of:(bp->Option cB)):Option Bool:=
 fh l of l 0

def eA(c:bp):Option cB:=
 some c.Name

def iW(kind:Int):Nat->Nat->Option cB
 |0,i=>
  some ([])
 |k1+1,i=>
  (fE TE (i:Int)).bind fun e1=>
  if(e1.kind==kind)then
  (some e1.word)
  else
  ((iW kind k1) (i+1))

def qd(kind:Int):Option cB:=
 iW kind 3 0

def eP(t:bH):List Int->Nat->Bool->Option Int
  |[],i1,ok1=>
    if(!ok1)then
    (some (211:Int))
    else
    (some (0:Int))
  |e1::tl1,i1,ok1=>
    (if((ok1&&(decide ((0:Int)<=e1)))&&(decide (e1<(t.Columns.length:Int))))then((if(!((i1:Int)==(0:Int)))then((fE t.Keys (IntKind.i64.wrap ((i1:Int)-(1:Int)))).bind fun e2=>
    some (decide (e2<e1)))else some true).bind fun t3=>
    some t3)else some false).bind fun t2=>
    (eP t tl1) (i1+1) t2

def fQ(t:bH):List bp->Bool->Option Int
  |[],ok=>
    eP t t.Keys 0 ok
  |e::tl,ok=>
    (if ok then((qd e.Kind).bind fun r2=>
    some (!(r2==([]))))else some false).bind fun t4=>
    (fQ t tl) t4

def lh(t:bH):Option Int:=
  (jC t.Name).bind fun r=>
  (if((r&&(decide ((1:Int)<=(t.Columns.length:Int))))&&(decide ((t.Columns.length:Int)<=(4:Int))))then((kF t.Columns eA).bind fun r1=>
  some r1)else some false).bind fun t1=>
  fQ t t.Columns t1

def jP(t:bH):Option Bool:=
 (lh t).bind fun r=>
 some (r !=(0:Int))

def bk(f:(bH->Option Bool)):List bH->Nat->Option Int
 |[],i=>
  some (-1:Int)
 |e::tl,i=>
  (f e).bind fun r=>
  if r then
  (some (i:Int))
  else
  ((bk f tl) (i+1))

def cG(s:(List bH))(f:(bH->Option Bool)):Option Int:=
 bk f s 0

def eV(s:(List bH))(f:(bH->Option Bool)):Option Bool:=
 (cG s f).bind fun r=>
 some (decide ((0:Int)<=r))

def dr(of:(bH->Option cB))(name:cB)(p:bH):Option Bool:=
 (of p).bind fun r=>
 some (r==name)

def fz(l:(List bH))(of:(bH->Option cB))(name:cB):Option (Int×Bool):=
 (cG l (dr of name)).bind fun r=>
 some ((max r (0:Int)),decide ((0:Int)<=r))

def fG(l:(List bH))(of:(bH->Option cB)):List bH->Nat->Option Bool
  |[],i=>
    some true
  |e::tl,i=>
    (of e).bind fun r=>
    (fz l of r).bind fun r1=>
    (if(!(r1.1 !=(i:Int)))then((of e).bind fun r2=>
    (jC r2).bind fun r3=>
    some (!r3))else some true).bind fun t=>
    if t then
    (some false)
    else
    ((fG l of tl) (i+1))

def lg(l:(List bH))(of:(bH->Option cB)):Option Bool:=
 fG l of l 0

def dz(t:bH):Option cB:=
 some t.Name

def na(c:au):Option Int:=
  (if(!(decide ((4:Int)<(c.Tables.length:Int))))then((eV c.Tables jP).bind fun r=>
  some r)else some true).bind fun t=>
  (if(!t)then((lg c.Tables dz).bind fun r1=>
  some (!r1))else some true).bind fun t1=>
  if t1 then
  (some (210:Int))
  else
  (some (0:Int))

def qU(n:Int):Option Bool:=
 some ((decide ((0:Int)<=n))&&(decide (n<=(2147483647:Int))))

def cI(f:(ay->Option Bool)):List ay->Nat->Option Int
 |[],i=>
  some (-1:Int)
 |e::tl,i=>
  (f e).bind fun r=>
  if r then
  (some (i:Int))
  else
  ((cI f tl) (i+1))

def fb(s:(List ay))(f:(ay->Option Bool)):Option Int:=
 cI f s 0

def dy(s:(List ay))(f:(ay->Option Bool)):Option Bool:=
 (fb s f).bind fun r=>
 some (decide ((0:Int)<=r))

def oV(s:cB):Option Bool:=
  (if(!(s==([])))then((jC s).bind fun r=>
  some r)else some true).bind fun t=>
  some t

def qT(s:dj):Option Bool:=
  (jC s.Table).bind fun r=>
  (if r then((oV s.As).bind fun r1=>
  some r1)else some false).bind fun t=>
  some t

def dX(f:(cy->Option Bool)):List cy->Nat->Option Int
 |[],i=>
  some (-1:Int)
 |e::tl,i=>
  (f e).bind fun r=>
  if r then
  (some (i:Int))
  else
  ((dX f tl) (i+1))

def fX(s:(List cy))(f:(cy->Option Bool)):Option Int:=
 dX f s 0

def ft(s:(List cy))(f:(cy->Option Bool)):Option Bool:=
 (fX s f).bind fun r=>
 some (decide ((0:Int)<=r))

def vU(tag:Int):Option Int:=
  if((decide (tag<(1:Int)))||(decide ((23:Int)<tag)))then
  (some (-1:Int))
  else
  (if(decide (tag<=(3:Int)))then
  (some (0:Int))
  else
  (if(decide (tag<=(11:Int)))then
  (some (1:Int))
  else
  (some (2:Int))))

def jv(v1:bZ):Option bZ:=
 some v1

def nV(v2:bZ):Option bZ:=
 jv (bZ.mk (0:Int) v2.N v2.U v2.S)

def nU(v:bZ):Option bZ:=
 nV (bZ.mk v.Kind (0:Int) v.U v.S)

def nT(v3:bZ):Option bZ:=
 jv v3

def uB(v:bZ):Option bZ:=
  if(v.Kind==(1:Int))then
  (if((v.N !=(0:Int))&&(v.N !=(1:Int)))then
  (jv v)
  else
  (nU v))
  else
  (if(v.Kind==(2:Int))then
  (nU v)
  else
  (if(v.Kind==(0:Int))then
  (nV v)
  else
  (if(v.Kind==(3:Int))then
  (if(decide ((v.S.length:Int)<=(40:Int)))then
  (nT (bZ.mk (0:Int) v.N v.U ([])))
  else
  (nT v))
  else
  (if(v.Kind==(4:Int))then
  (jv (bZ.mk (0:Int) (0:Int) (0:Int) v.S))
  else
  (jv v)))))

def rf(v:bZ):Option Int:=
 (uB v).bind fun r=>
 if(!decide (r=(⟨(0:Int),(0:Int),(0:Int),[]⟩:bZ)))then
 (some (120:Int))
 else
 (some (0:Int))

def pm(v:bZ):Option Bool:=
 (rf v).bind fun r=>
 some ((r==(0:Int))&&(v.Kind !=(4:Int)))

def mz(s:cB):Nat->Int->Option Bool
  |0,_=>none
  |n+1,x=>
    if(decide (x<(s.length:Int)))then
    ((CS s x).bind fun b=>
    (if(!(decide (b<(32:Int))))then((CS s x).bind fun b1=>
    some (decide ((126:Int)<b1)))else some true).bind fun t=>
    if t then
    (some false)
    else
    ((mz s n) (IntKind.i64.wrap (x+(1:Int)))))
    else
    (some true)

def vm(s:cB):Option Bool:=
 mz s nA (0:Int)

def tN(n:cw):Option Bool:=
  if(n.Tag==(1:Int))then
  ((if(!((!(n.Table==([])))||(!(n.Name==([])))))then((pm n.Value).bind fun r=>
  some r)else some false).bind fun t=>
  (if(t&&(decide ((0:Int)<=n.Value.N)))then((vm n.Value.S).bind fun r1=>
  some r1)else some false).bind fun t1=>
  some t1)
  else
  (if(n.Tag==(2:Int))then
  ((if(!(!decide (n.Value=(⟨(0:Int),(0:Int),(0:Int),[]⟩:bZ))))then((jC n.Name).bind fun r2=>
  some r2)else some false).bind fun t2=>
  (if t2 then((oV n.Table).bind fun r3=>
  some r3)else some false).bind fun t3=>
  some t3)
  else
  (some ((!((!(n.Table==([])))||(!(n.Name==([])))))&&(!(!decide (n.Value=(⟨(0:Int),(0:Int),(0:Int),[]⟩:bZ)))))))

def mO(nx:Nat->(List jI)->(List Int)->Option ((List jI)×Bool))(i:Nat)(all:List jI)(open1:List Int)(r:Int):List Int->jI->Option ((List jI)×Bool)
 |[],b2=>
  (lX all ([b2])).bind fun all1=>
  (cE open1 0 (IntKind.i64.wrap ((open1.length:Int)-r))).bind fun y1=>
  (lX y1 ([(i:Int)])).bind fun open2=>
  nx (i+1) all1 open2
 |e4::tl1,b2=>
  (fE all e4).bind fun e5=>
  (mO nx i all open1 r tl1) (jI.mk ({b2 with first:=(min b2.first e5.first)}:jI).first (max b2.depth (IntKind.i64.wrap (e5.depth+(1:Int)))))

def lk:List cw->Nat->(List jI)->(List Int)->Option ((List jI)×Bool)
  |[],i,all,open1=>
    (if(((open1.length:Int)==(1:Int))&&(decide ((all.length:Int)<=(300:Int))))then((fE all (IntKind.i64.wrap ((all.length:Int)-(1:Int)))).bind fun e1=>
    some (decide (e1.depth<=(20:Int))))else some false).bind fun t1=>
    some (all,t1)
  |e::tl,i,all,open1=>
    (vU e.Tag).bind fun r=>
    (if(!((decide (r<(0:Int)))||(decide ((open1.length:Int)<r))))then((tN e).bind fun r1=>
    some (!r1))else some true).bind fun t2=>
    if t2 then
    (some ([],false))
    else
    ((cE open1 (IntKind.i64.wrap ((open1.length:Int)-r)) (open1.length:Int)).bind fun y=>
    (some (rL ([(-1:Int),(-1:Int)]) y)).bind fun cp=>
    (fE cp (0:Int)).bind fun e2=>
    (if(!(e.L !=e2))then((fE cp (1:Int)).bind fun e3=>
    some (e.R !=e3))else some true).bind fun t3=>
    if t3 then
    (some ([],false))
    else
    (mO (lk tl) i all open1 r y (⟨(i:Int),(1:Int)⟩:jI)))

def Ak(t:cy):Option ((List jI)×Bool):=
 lk t.Nodes 0 ([]:List jI) ([]:List Int)

def pg(t:cy):Option Int:=
 (Ak t).bind fun r=>
 if(!r.2)then
 (some (180:Int))
 else
 (some (0:Int))

def rO(t:cy):Option Bool:=
 (pg t).bind fun r=>
 some (r !=(0:Int))

def qn(l:(List cy)):Option Bool:=
 (ft l rO).bind fun r=>
 some (!r)

def mA(s:ay):Nat->Nat->Bool->Option Bool
  |0,i3,ok3=>
    some ok3
  |k1+1,i3,ok3=>
    (fE ([s.Where,s.Having]) (i3:Int)).bind fun e4=>
    (if ok3 then((if(!((e4.Nodes.length:Int)==(0:Int)))then((qn ([e4])).bind fun r1=>
    some r1)else some true).bind fun t1=>
    some t1)else some false).bind fun t=>
    (mA s k1) (i3+1) t

def kK(s:ay):List iN->Bool->Option Bool
  |[],ok2=>
    mA s 2 0 ok2
  |e2::tl2,ok2=>
    (if ok2 then((jC e2.Name).bind fun r2=>
    some r2)else some false).bind fun t2=>
    (if t2 then((oV e2.Table).bind fun r3=>
    some r3)else some false).bind fun t3=>
    (kK s tl2) t3

def kL(s:ay):List lT->Bool->Option Bool
  |[],ok1=>
    kK s s.Group ok1
  |e1::tl1,ok1=>
    (if ok1 then((qn ([e1.On])).bind fun r4=>
    some r4)else some false).bind fun t4=>
    (if t4 then((qT e1.Source).bind fun r5=>
    some r5)else some false).bind fun t5=>
    (kL s tl1) t5

def kM(s:ay):List eG->Bool->Option Bool
  |[],ok=>
    kL s s.Joins ok
  |e::tl,ok=>
    (if ok then((qn ([e.Tree])).bind fun r6=>
    some r6)else some false).bind fun t6=>
    (if t6 then((oV e.As).bind fun r7=>
    some r7)else some false).bind fun t7=>
    (kM s tl) t7

def rP(s:ay):Option Bool:=
  if((((s.Star !=((s.Items.length:Int)==(0:Int)))||(decide ((6:Int)<(s.Items.length:Int))))||(decide ((2:Int)<(s.Joins.length:Int))))||(decide ((3:Int)<(s.Group.length:Int))))then
  (some false)
  else
  ((qT s.From).bind fun r=>
  kM s s.Items r)

def pz(s:ay):Option Bool:=
 (rP s).bind fun r=>
 some (!r)

def mP(q:bD):List tW->Bool->Option Int
  |[],ok=>
    (if(!(!ok))then((dy q.Selects pz).bind fun r1=>
    some r1)else some true).bind fun t2=>
    if t2 then
    (some (180:Int))
    else
    (some (0:Int))
  |e::tl,ok=>
    (if ok then((if(e.Name==([]))then((qU e.Number).bind fun r2=>
    some r2)else some false).bind fun t4=>
    (if(!t4)then((jC e.Name).bind fun r3=>
    some (r3&&(e.Number==(0:Int))))else some true).bind fun t5=>
    some t5)else some false).bind fun t3=>
    (mP q tl) t3

def vV(q:bD):Option Int:=
  (if(((decide ((0:Int)<(q.Selects.length:Int)))&&(decide ((q.Selects.length:Int)<=(3:Int))))&&(decide ((q.Keys.length:Int)<=(3:Int))))then((if(!(q.Limit==(-1:Int)))then((qU q.Limit).bind fun r=>
  some r)else some true).bind fun t1=>
  some t1)else some false).bind fun t=>
  mP q q.Keys t

def mN(c:au)(name:cB):Option (Int×Bool):=
 (fz c.Tables dz name).bind fun r=>
 some (r.1,r.2)

def rM(s:dj):Option cB:=
 if(s.As==([]))then
 (some s.Table)
 else
 (some s.As)

def fi(r1:cB):List bp->ac->Option (Int×ac)
 |[],ob=>
  some ((0:Int),ob)
 |e1::tl,ob=>
  (lX ((fD ob.alone e1.Name).getD []) ([(ob.kinds.length:Int)])).bind fun l9=>
  (some ({({ob with alone:=(ie ob.alone e1.Name l9)}:ac)with behind:=(ie ob.behind ((⟨r1,e1.Name⟩:iN).Table,(⟨r1,e1.Name⟩:iN).Name) (ob.kinds.length:Int))}:ac)).bind fun sc1=>
  (lX sc1.kinds ([e1.Kind])).bind fun l10=>
  (fi r1 tl) ({sc1 with kinds:=l10}:ac)

def fK(s:ac)(p:dj):Option (Int×ac):=
  (mN s.Catalog p.Table).bind fun r=>
  (rM p).bind fun r1=>
  if(!r.2)then
  (some ((220:Int),s))
  else
  (if((fD s.called r1).getD false)then
  (some ((221:Int),s))
  else
  ((lX s.out.Tables ([r.1])).bind fun l=>
  (some ({({s with called:=(ie s.called r1 true)}:ac)with out:=({({s with called:=(ie s.called r1 true)}:ac).out with Tables:=l}:aK)}:ac)).bind fun sc=>
  (fE sc.Catalog.Tables r.1).bind fun e=>
  fi r1 e.Columns sc))

def gj(s:ac):Option (Int×ac):=
 (fK ({s with at_:=(0:Int)}:ac) ((({s with at_:=(0:Int)}:ac).from_).From)).bind fun r=>
 some (r.1,r.2)

def oT(tag:Int):Option Int:=
  if((tag==(1:Int))||(tag==(2:Int)))then
  (some (0:Int))
  else
  (if((decide ((4:Int)<=tag))&&(decide (tag<=(7:Int))))then
  (some (1:Int))
  else
  (if((decide ((12:Int)<=tag))&&(decide (tag<=(23:Int))))then
  (some (2:Int))
  else
  (some (-1:Int))))

def rF(n:ap):Option Bool:=
  if(n.Tag==(1:Int))then
  ((pm n.Value).bind fun r=>
  some (r&&(n.Col==(0:Int))))
  else
  (if(n.Tag==(2:Int))then
  (some (((decide (n.Value=(⟨(0:Int),(0:Int),(0:Int),[]⟩:bZ)))&&(decide ((0:Int)<=n.Col)))&&(decide (n.Col<(16:Int)))))
  else
  (some ((decide (n.Value=(⟨(0:Int),(0:Int),(0:Int),[]⟩:bZ)))&&(n.Col==(0:Int)))))

def kD(nx:Nat->(List Int)->(List Int)->Option ((List Int)×Bool))(i:Nat)(e1:ap)(all:List Int)(open1:List Int)(r:Int):List Int->Nat->Int->(List Int)->Option ((List Int)×Bool)
  |[],i1,first,at1=>
    if(!decide (at1=([e1.L,e1.R])))then
    (some ([],false))
    else
    ((lX all ([first])).bind fun all1=>
    (cE open1 0 (IntKind.i64.wrap ((open1.length:Int)-r))).bind fun y1=>
    (lX y1 ([(i:Int)])).bind fun open2=>
    nx (i+1) all1 open2)
  |e2::tl1,i1,first,at1=>
    (fE all e2).bind fun e3=>
    (fE at1 (i1:Int)).bind fun e4=>
    (some (at1.set (i1:Int).toNat e2)).bind fun ar=>
    (kD nx i e1 all open1 r tl1) (i1+1) (min first e3) ar

def jF:List ap->Nat->(List Int)->(List Int)->Option ((List Int)×Bool)
  |[],i,all,open1=>
    some (all,(((open1.length:Int)==(1:Int))&&(decide ((all.length:Int)<=(1000:Int)))))
  |e1::tl,i,all,open1=>
    (oT e1.Tag).bind fun r=>
    (if(!((decide (r<(0:Int)))||(decide ((open1.length:Int)<r))))then((rF e1).bind fun r1=>
    some (!r1))else some true).bind fun t=>
    if t then
    (some ([],false))
    else
    ((cE open1 (IntKind.i64.wrap ((open1.length:Int)-r)) (open1.length:Int)).bind fun y=>
    kD (jF tl) i e1 all open1 r y 0 (i:Int) ([(-1:Int),(-1:Int)]))

def vb(e:aB):Option ((List Int)×Bool):=
 jF e.Nodes 0 ([]:List Int) ([]:List Int)

def ny(e:aB):Option Int:=
 (vb e).bind fun r=>
 if(!r.2)then
 (some (200:Int))
 else
 (some (0:Int))

def dN(i:Nat)(y:List Int):Nat->Nat->(List Int)->Int->Option (List Int)
  |0,i1,s1,k=>
    (cE s1 k (s1.length:Int)).bind fun y1=>
    (some (s1.take k.toNat++List.replicate y1.length (0:Int))).bind fun cl=>
    (cE cl 0 k).bind fun y2=>
    some y2
  |k2+1,i1,s1,k=>
    (D8 s1 (i:Int) y.length (i1:Int)).bind fun e3=>
    (D8 s1 (i:Int) y.length (IntKind.i64.wrap ((i1:Int)-(1:Int)))).bind fun e4=>
    if(e3 !=e4)then
    ((D8 s1 (i:Int) y.length (i1:Int)).bind fun e5=>
    (fE s1 k).bind fun e6=>
    (some (s1.set k.toNat e5)).bind fun st=>
    (dN i y k2) (i1+1) st (IntKind.i64.wrap (k+(1:Int))))
    else
    ((dN i y k2) (i1+1) s1 k)

def er(s:(List Int)):List Int->Nat->Option (List Int)
  |[],i=>
    some s
  |e::tl,i=>
    (fE s (IntKind.i64.wrap ((i:Int)-(1:Int)))).bind fun e1=>
    if(e==e1)then
    ((cE s (i:Int) (s.length:Int)).bind fun y=>
    dN i y (y.length-1) 1 s (i:Int))
    else
    ((er s tl) (i+1))

def jf(s:(List Int)):Option (List Int):=
 if(decide ((s.length:Int)<(2:Int)))then
 (some s)
 else
 (er s (s.drop (1)) 1)

def lb:List ap->(List Int)->Option (List Int)
  |[],out=>
    (Cg out).bind fun Vd=>
    (jf Vd).bind fun r1=>
    some r1
  |e1::tl,out=>
    if(e1.Tag==(2:Int))then
    ((lX out ([e1.Col])).bind fun out1=>
    (lb tl) out1)
    else
    ((lb tl) out)

def sM(e:aB):Option (List Int):=
 (ny e).bind fun r=>
 if(r !=(0:Int))then
 (some ([]:List Int))
 else
 (lb e.Nodes ([]:List Int))

def jU(s:(List Int)):Option (List Int):=
 (lX ([]:List Int) s).bind fun x=>
 some x

def nf(stack:(List Int))(k:Int):Option ((List Int)×(List Int)):=
 (cE stack (IntKind.i64.wrap ((stack.length:Int)-k)) (stack.length:Int)).bind fun y=>
 (jU y).bind fun r=>
 (cE stack 0 (IntKind.i64.wrap ((stack.length:Int)-k))).bind fun y1=>
 some (r,y1)

def kC(bad:Int)(stack:List Int):Option (Int×Int):=
  if(bad !=(0:Int))then
  (some ((0:Int),bad))
  else
  ((fE stack (0:Int)).bind fun e1=>
  some (e1,(0:Int)))

def gi(do1:(ap->(List Int)->Option (Int×Int))):List ap->Int->(List Int)->Option (Int×Int)
  |[],bad1,stack1=>
    kC bad1 stack1
  |e2::tl,bad1,stack1=>
    (oT e2.Tag).bind fun r=>
    (nf stack1 r).bind fun r1=>
    (do1 e2 r1.1).bind fun r2=>
    if(r2.2 !=(0:Int))then
    (kC r2.2 r1.2)
    else
    ((lX r1.2 ([r2.1])).bind fun l2=>
    (gi do1 tl) bad1 l2)

def m9(e:aB)(do1:(ap->(List Int)->Option (Int×Int))):Option (Int×Int):=
 gi do1 e.Nodes (0:Int) ([]:List Int)

def ud(tag:Int):Option Bool:=
 some ((tag==(4:Int))||((decide ((12:Int)<=tag))&&(decide (tag<=(15:Int)))))

def kE(kinds:(List Int))(n:ap):List Int->Int->Option (Int×Int)
  |[],own=>
    if(n.Tag==(1:Int))then
    (some (n.Value.Kind,(0:Int)))
    else
    (if(n.Tag==(2:Int))then
    ((fE kinds n.Col).bind fun e1=>
    some (e1,(0:Int)))
    else
    ((ud n.Tag).bind fun r=>
    if r then
    (if((own==(-1:Int))||((own !=(0:Int))&&(own !=(2:Int))))then
    (some ((0:Int),(201:Int)))
    else
    (some ((2:Int),(0:Int))))
    else
    (if(((n.Tag==(5:Int))||(n.Tag==(22:Int)))||(n.Tag==(23:Int)))then
    (if((own==(-1:Int))||((own !=(0:Int))&&(own !=(1:Int))))then
    (some ((0:Int),(201:Int)))
    else
    (some ((1:Int),(0:Int))))
    else
    (if((own==(-1:Int))||((own !=(0:Int))&&(own !=own)))then
    (some ((0:Int),(201:Int)))
    else
    (some ((1:Int),(0:Int)))))))
  |e::tl,own=>
    if((e==(0:Int))||(e==own))then
    ((kE kinds n tl) own)
    else
    (if(own==(0:Int))then
    ((kE kinds n tl) e)
    else
    ((kE kinds n tl) (-1:Int)))

def iv(kinds:(List Int))(n:ap)(l:(List Int)):Option (Int×Int):=
 kE kinds n l (0:Int)

def kZ(e:aB)(kinds:(List Int)):List Int->Option (Int×Int)
 |[]=>
  (m9 e (iv kinds)).bind fun r2=>
  some (r2.1,r2.2)
 |e2::tl1=>
  if(decide ((kinds.length:Int)<=e2))then
  (some ((0:Int),(2:Int)))
  else
  ((kZ e kinds tl1))

def oj(e:aB)(kinds:(List Int)):List Int->Option (Int×Int)
 |[]=>
  (sM e).bind fun r1=>
  kZ e kinds r1
 |e1::tl=>
  if((decide (e1<(0:Int)))||(decide ((3:Int)<e1)))then
  (some ((0:Int),(2:Int)))
  else
  ((oj e kinds tl))

def lC(e:aB)(kinds:(List Int)):Option (Int×Int):=
 (ny e).bind fun r=>
 if(r !=(0:Int))then
 (some ((0:Int),r))
 else
 (oj e kinds kinds)

def nh:Option (List (Int×Int)):=
 some (ie (ie (ie (ie (ie ([]:List (Int×Int)) (3:Int) (1:Int)) (8:Int) (2:Int)) (9:Int) (3:Int)) (10:Int) (4:Int)) (11:Int) (5:Int))

def oe(nx:(List ap)->Option (List ap))(out1:List ap)(n1:ap):Option (List ap):=
 (lX out1 ([n1])).bind fun out2=>
 nx out2

def oh(out:(List ap))(nx:(List ap)->Option (List ap))(out1:List ap)(n:ap):Option (List ap):=
 if(decide ((0:Int)<=n.R))then
 (oe nx out1 (ap.mk n.Tag n.L (IntKind.i64.wrap (n.R+(out.length:Int))) n.Col n.Value))
 else
 (oe nx out1 n)

def ig(out:(List ap)):List ap->(List ap)->Option (List ap)
 |[],out1=>
  some out1
 |e1::tl,out1=>
  if(decide ((0:Int)<=e1.L))then
  (oh out (ig out tl) out1 (ap.mk e1.Tag (IntKind.i64.wrap (e1.L+(out.length:Int))) e1.R e1.Col e1.Value))
  else
  (oh out (ig out tl) out1 e1)

def vQ(out:(List ap))(e:aB):Option (List ap):=
 ig out e.Nodes out

def gC(root:ap):List aB->Nat->(List ap)->(List Int)->Option aB
 |[],i,out,at1=>
  (fE at1 (0:Int)).bind fun e1=>
  (fE at1 (1:Int)).bind fun e2=>
  (lX out ([(ap.mk ({root with L:=e1}:ap).Tag ({root with L:=e1}:ap).L e2 ({root with L:=e1}:ap).Col ({root with L:=e1}:ap).Value)])).bind fun l2=>
  some (⟨l2⟩:aB)
 |e::tl,i,out,at1=>
  (vQ out e).bind fun r=>
  (fE at1 (i:Int)).bind fun e3=>
  (some (at1.set (i:Int).toNat (IntKind.i64.wrap ((r.length:Int)-(1:Int))))).bind fun ar=>
  (gC root tl) (i+1) r ar

def jX(root:ap)(l:(List aB)):Option aB:=
 gC root l 0 ([]:List ap) ([(-1:Int),(-1:Int)])

def kY(root:ap)(l:(List aB)):List aB->aB->Option (aB×Int)
 |[],x=>
  (jX root l).bind fun r=>
  (ny r).bind fun r1=>
  if(r1 !=(0:Int))then
  (some ((⟨[]⟩:aB),r1))
  else
  (some (r,(0:Int)))
 |e::tl,x=>
  (ny e).bind fun r2=>
  if(r2 !=(0:Int))then
  (some ((⟨[]⟩:aB),r2))
  else
  ((kY root l tl) x)

def oU(root:ap)(l:(List aB)):Option (aB×Int):=
 kY root l l (⟨[]⟩:aB)

def ql(n:ap):Option (aB×Int):=
 (oU n ([])).bind fun r=>
 some (r.1,r.2)

def bm(n:ap):Option (aB×Int):=
 (ql n).bind fun r=>
 some (r.1,r.2)

def eU(s:ac)(group:Bool):Option (List Int):=
 if group then
 (some s.groups)
 else
 (some s.kinds)

def iK(s:ac)(n:iN):Option (Int×Int):=
  if(!(n.Table==([])))then
  (if(!((fD s.behind (n.Table,n.Name)).isSome))then
  (some ((0:Int),(222:Int)))
  else
  (some (((fD s.behind (n.Table,n.Name)).getD (0:Int)),(0:Int))))
  else
  (if((((fD s.alone n.Name).getD []).length:Int)==(0:Int))then
  (some ((0:Int),(222:Int)))
  else
  (if((((fD s.alone n.Name).getD []).length:Int)==(1:Int))then
  ((fE ((fD s.alone n.Name).getD []) (0:Int)).bind fun e=>
  some (e,(0:Int)))
  else
  (some ((0:Int),(223:Int)))))

def ga(v:Int):List Int->Nat->Option Int
 |[],i=>
  some (-1:Int)
 |e::tl,i=>
  if(v==e)then
  (some (i:Int))
  else
  ((ga v tl) (i+1))

def jT(s:(List Int))(v:Int):Option Int:=
 ga v s 0

def dp(f:(jJ->Option Bool)):List jJ->Nat->Option Int
 |[],i=>
  some (-1:Int)
 |e::tl,i=>
  (f e).bind fun r=>
  if r then
  (some (i:Int))
  else
  ((dp f tl) (i+1))

def gw(s:(List jJ))(f:(jJ->Option Bool)):Option Int:=
 dp f s 0

def dq(s2:(List ap)):List ap->Nat->Option Bool
 |[],i=>
  some true
 |e::tl,i=>
  (fE s2 (i:Int)).bind fun e1=>
  if(!decide (e=e1))then
  (some false)
  else
  ((dq s2 tl) (i+1))

def gx(s1:(List ap))(s2:(List ap)):Option Bool:=
 if((s1.length:Int) !=(s2.length:Int))then
 (some false)
 else
 (dq s2 s1 0)

def vR(a1:aB)(b:aB):Option Bool:=
 (gx a1.Nodes b.Nodes).bind fun r=>
 some r

def jt(c:jJ)(p:jJ):Option Bool:=
  (if(p.Tag==c.Tag)then((vR p.Arg c.Arg).bind fun r=>
  some r)else some false).bind fun t=>
  some t

def jZ(i:Int)(ob:ac):Option (Int×Int×ac):=
 if(decide ((12:Int)<(ob.out.Aggs.length:Int)))then
 (some ((0:Int),(228:Int),ob))
 else
 (some ((IntKind.i64.wrap ((ob.out.Keys.length:Int)+i)),(0:Int),ob))

def iL(s:ac)(a1:jJ)(kind:Int):Option (Int×Int×ac):=
  (gw s.out.Aggs (jt a1)).bind fun r=>
  if(decide (r<(0:Int)))then
  ((lX s.out.Aggs ([a1])).bind fun l7=>
  (lX s.groups ([kind])).bind fun l8=>
  jZ (s.out.Aggs.length:Int) ({({s with out:=({s.out with Aggs:=l7}:aK)}:ac)with groups:=l8}:ac))
  else
  (jZ r s)

def kI(s:ac)(a1:jJ):Option (Int×Int×ac):=
  if(a1.Tag !=(1:Int))then
  ((lC a1.Arg s.kinds).bind fun r1=>
  if((r1.2 !=(0:Int))||(((a1.Tag==(3:Int))&&(r1.1 !=(2:Int)))&&(r1.1 !=(0:Int))))then
  (some ((0:Int),(201:Int),s))
  else
  (if((a1.Tag==(4:Int))||(a1.Tag==(5:Int)))then
  (iL s a1 r1.1)
  else
  (iL s a1 (2:Int))))
  else
  (iL s a1 (2:Int))

def vc(tag:Int)(l:aB):Option (aB×Int):=
 (oU (⟨tag,(0:Int),(0:Int),(0:Int),(⟨(0:Int),(0:Int),(0:Int),[]⟩:bZ)⟩:ap) ([l])).bind fun r=>
 some (r.1,r.2)

def yP(tag:Int)(l:aB)(r:aB):Option (aB×Int):=
 (oU (⟨tag,(0:Int),(0:Int),(0:Int),(⟨(0:Int),(0:Int),(0:Int),[]⟩:bZ)⟩:ap) ([l,r])).bind fun r1=>
 some (r1.1,r1.2)

def dv(s:ac)(leaf:(ap->Option (aB×Int)))(at1:Int)(e1:Int):Option (aB×Int×ac):=
  if(e1 !=(0:Int))then
  (some ((⟨[]⟩:aB),e1,s))
  else
  ((leaf (⟨(2:Int),(0:Int),(0:Int),at1,(⟨(0:Int),(0:Int),(0:Int),[]⟩:bZ)⟩:ap)).bind fun r2=>
  some (r2.1,r2.2,s))

def ep(leaf:(ap->Option (aB×Int)))(ob:ac)(a1:jJ):Option (aB×Int×ac):=
  (kI ob a1).bind fun r4=>
  if(r4.2.1 !=(0:Int))then
  (some ((⟨[]⟩:aB),r4.2.1,r4.2.2))
  else
  ((leaf (⟨(2:Int),(0:Int),(0:Int),r4.1,(⟨(0:Int),(0:Int),(0:Int),[]⟩:bZ)⟩:ap)).bind fun r5=>
  some (r5.1,r5.2,r4.2.2))

def mv(x1:aB)(e5:Int)(ob1:ac):Option (aB×Int×ac):=
 some (x1,e5,ob1)

def gk(over:ac->Bool->Option ((List Int)×ac))(group:Bool)(ob:ac)(e4:Int)(x1:aB):Option (aB×Int×ac):=
  if(e4==(0:Int))then
  ((over ob (group)).bind fun r7=>
  (lC x1 r7.1).bind fun r8=>
  mv x1 r8.2 r7.2)
  else
  (mv x1 e4 ob)

def fj(leaf:(ap->Option (aB×Int)))(tags:(List (Int×Int)))(over:ac->Bool->Option ((List Int)×ac))(group:Bool)(e:cw)(parts:List aB)(x:aB)(ob:ac):Option (aB×Int×ac):=
  if((decide ((0:Int)<((fD tags e.Tag).getD (0:Int))))&&(!group))then
  (some ((⟨[]⟩:aB),(224:Int),ob))
  else
  (if(decide ((0:Int)<((fD tags e.Tag).getD (0:Int))))then
  (if(decide ((0:Int)<(parts.length:Int)))then
  ((fE parts (0:Int)).bind fun e2=>
  ep leaf ob (jJ.mk (⟨((fD tags e.Tag).getD (0:Int)),(⟨[]⟩:aB)⟩:jJ).Tag e2))
  else
  (ep leaf ob (⟨((fD tags e.Tag).getD (0:Int)),(⟨[]⟩:aB)⟩:jJ)))
  else
  ((fE parts (0:Int)).bind fun e3=>
  (vc e.Tag e3).bind fun r6=>
  if((parts.length:Int)==(2:Int))then
  ((fE parts (1:Int)).bind fun e6=>
  (yP e.Tag e3 e6).bind fun r9=>
  gk over group ob r9.2 r9.1)
  else
  (gk over group ob r6.2 r6.1)))

def du(self__:ac->cy->(ap->Option (aB×Int))->(List (Int×Int))->(ac->Bool->Option ((List Int)×ac))->Int->Bool->Option (aB×Int×ac))(t:cy)(leaf:(ap->Option (aB×Int)))(tags:(List (Int×Int)))(over:ac->Bool->Option ((List Int)×ac))(group:Bool)(e:cw):Nat->Nat->(List aB)->aB->ac->Option (aB×Int×ac)
  |0,i3,parts1,x2,ob2=>
    fj leaf tags over group e parts1 x2 ob2
  |k1+1,i3,parts1,x2,ob2=>
    (fE ([e.L,e.R]) (i3:Int)).bind fun e8=>
    if(decide (e8<(0:Int)))then
    (fj leaf tags over group e parts1 x2 ob2)
    else
    ((self__ ob2 t leaf tags over e8 (group&&(((fD tags e.Tag).getD (0:Int))==(0:Int)))).bind fun r10=>
    if(r10.2.1 !=(0:Int))then
    (some (r10.1,r10.2.1,r10.2.2))
    else
    ((lX parts1 ([r10.1])).bind fun parts2=>
    (du self__ t leaf tags over group e k1) (i3+1) parts2 x2 r10.2.2))

def bE:Nat->ac->cy->(ap->Option (aB×Int))->(List (Int×Int))->(ac->Bool->Option ((List Int)×ac))->Int->Bool->Option (aB×Int×ac)
  |0,_,_,_,_,_,_,_=>none
  |fu+1,s,t,leaf,tags,over,i,group=>
    (fE t.Nodes i).bind fun e=>
    if(e.Tag==(1:Int))then
    ((leaf (⟨(1:Int),(0:Int),(0:Int),(0:Int),e.Value⟩:ap)).bind fun r=>
    some (r.1,r.2,s))
    else
    (if(e.Tag==(2:Int))then
    ((iK s (⟨e.Table,e.Name⟩:iN)).bind fun r1=>
    if((r1.2==(0:Int))&&group)then
    ((jT s.out.Keys r1.1).bind fun r3=>
    if(decide (r3<(0:Int)))then
    (dv s leaf r3 (225:Int))
    else
    (dv s leaf r3 r1.2))
    else
    (dv s leaf r1.1 r1.2))
    else
    (du (bE fu) t leaf tags over group e 2 0 ([]:List aB) (⟨[]⟩:aB) s))

def om(s:ac)(t:cy)(leaf:(ap->Option (aB×Int)))(tags:(List (Int×Int)))(over:ac->Bool->Option ((List Int)×ac))(i:Int)(group:Bool):Option (aB×Int×ac):=
 bE nA s t leaf tags over i group

def jQ(s:ac)(t:cy)(group:Bool):Option (aB×Int×Int×ac):=
  (nh).bind fun r=>
  (om s t bm r (fun(mc:ac) (mx:Bool)=>(eU mc mx).map fun mr=>(mr,mc)) (IntKind.i64.wrap ((t.Nodes.length:Int)-(1:Int))) group).bind fun r1=>
  if(r1.2.1 !=(0:Int))then
  (some ((⟨[]⟩:aB),(0:Int),r1.2.1,r1.2.2))
  else
  (((fun(mc:ac) (mx:Bool)=>(eU mc mx).map fun mr=>(mr,mc)) r1.2.2 (group)).bind fun r2=>
  (lC r1.1 r2.1).bind fun r3=>
  some (r1.1,r3.1,r3.2,r2.2))

def km(r:aB×Int×Int×ac)(e:Int):Option (aB×Int×ac):=
 some (r.1,e,r.2.2.2)

def ej(s:ac)(t:cy)(group:Bool):Option (aB×Int×ac):=
 (jQ s t group).bind fun r=>
 if(((r.2.2.1==(0:Int))&&(r.2.1 !=(1:Int)))&&(r.2.1 !=(0:Int)))then
 (km r (226:Int))
 else
 (km r r.2.2.1)

def gH:List lT->ac->Option (Int×ac)
  |[],ob=>
    some ((0:Int),ob)
  |e::tl,ob=>
    (fK ob e.Source).bind fun r=>
    if(r.1 !=(0:Int))then
    (some (r.1,r.2))
    else
    ((ej r.2 e.On false).bind fun r1=>
    if(r1.2.1 !=(0:Int))then
    (some (r1.2.1,r1.2.2))
    else
    ((lX r1.2.2.out.Joins ([(⟨e.Left,r1.1⟩:ll)])).bind fun l7=>
    (gH tl) ({r1.2.2 with out:=({r1.2.2.out with Joins:=l7}:aK)}:ac)))

def eK(s:ac):Option (Int×ac):=
 gH ((({s with at_:=(1:Int)}:ac).from_).Joins) ({s with at_:=(1:Int)}:ac)

def mV(e:Int)(ob:ac):Option (Int×ac):=
 some (e,ob)

def fA(s:ac):Option (Int×ac):=
  if(decide ((0:Int)<((((({s with at_:=(2:Int)}:ac).from_).Where).Nodes).length:Int)))then
  ((ej ({s with at_:=(2:Int)}:ac) ((({s with at_:=(2:Int)}:ac).from_).Where) false).bind fun r=>
  mV r.2.1 ({r.2.2 with out:=({r.2.2.out with Where:=r.1}:aK)}:ac))
  else
  (mV (0:Int) ({s with at_:=(2:Int)}:ac))

def jb:List iN->ac->Option (Int×ac)
  |[],ob=>
    some ((0:Int),ob)
  |e::tl,ob=>
    (iK ob e).bind fun r=>
    if(r.2 !=(0:Int))then
    (some (r.2,ob))
    else
    ((lX ob.out.Keys ([r.1])).bind fun l7=>
    (fE ob.kinds r.1).bind fun e1=>
    (lX ob.groups ([e1])).bind fun l8=>
    (jb tl) ({({ob with out:=({ob.out with Keys:=l7}:aK)}:ac)with groups:=l8}:ac))

def eM(s:ac):Option (Int×ac):=
 jb ((({s with at_:=(3:Int)}:ac).from_).Group) ({s with at_:=(3:Int)}:ac)

def db(f:(cw->Option Bool)):List cw->Nat->Option Int
 |[],i=>
  some (-1:Int)
 |e::tl,i=>
  (f e).bind fun r=>
  if r then
  (some (i:Int))
  else
  ((db f tl) (i+1))

def fY(s:(List cw))(f:(cw->Option Bool)):Option Int:=
 db f s 0

def dY(s:(List cw))(f:(cw->Option Bool)):Option Bool:=
 (fY s f).bind fun r=>
 some (decide ((0:Int)<=r))

def kJ(tags:(List (Int×Int)))(n:cw):Option Bool:=
 some (decide ((0:Int)<((fD tags n.Tag).getD (0:Int))))

def mw(tags:(List (Int×Int)))(p:eG):Option Bool:=
 (dY p.Tree.Nodes (kJ tags)).bind fun r=>
 some r

def dc(f:(eG->Option Bool)):List eG->Nat->Option Int
 |[],i=>
  some (-1:Int)
 |e::tl,i=>
  (f e).bind fun r=>
  if r then
  (some (i:Int))
  else
  ((dc f tl) (i+1))

def fZ(s:(List eG))(f:(eG->Option Bool)):Option Int:=
 dc f s 0

def dZ(s:(List eG))(f:(eG->Option Bool)):Option Bool:=
 (fZ s f).bind fun r=>
 some (decide ((0:Int)<=r))

def qf(s:ay):Option Bool:=
  (nh).bind fun r=>
  (if(!((decide ((0:Int)<(s.Group.length:Int)))||(decide ((0:Int)<(s.Having.Nodes.length:Int)))))then((dZ s.Items (mw r)).bind fun r1=>
  some r1)else some true).bind fun t=>
  some t

def gI:List eG->ac->Option (Int×ac)
  |[],ob1=>
    some ((0:Int),ob1)
  |e::tl,ob1=>
    (jQ ob1 e.Tree ob1.out.Grouped).bind fun r1=>
    if(r1.2.2.1 !=(0:Int))then
    (some (r1.2.2.1,r1.2.2.2))
    else
    ((lX r1.2.2.2.out.Items ([r1.1])).bind fun l14=>
    (gI tl) ({r1.2.2.2 with out:=({r1.2.2.2.out with Items:=l14}:aK)}:ac))

def fJ(ob:ac):Option (Int×ac):=
 gI ob.from_.Items ob

def ja:List Int->Nat->ac->Option (Int×ac)
  |[],i4,ob2=>
    fJ ob2
  |e1::tl1,i4,ob2=>
    (ql (⟨(2:Int),(0:Int),(0:Int),(i4:Int),(⟨(0:Int),(0:Int),(0:Int),[]⟩:bZ)⟩:ap)).bind fun r2=>
    if(r2.2 !=(0:Int))then
    (some (r2.2,ob2))
    else
    ((lX ob2.out.Items ([r2.1])).bind fun l22=>
    (ja tl1) (i4+1) ({ob2 with out:=({ob2.out with Items:=l22}:aK)}:ac))

def fB(s:ac):Option (Int×ac):=
  (qf (({s with at_:=(4:Int)}:ac).from_)).bind fun r=>
  (some ({({s with at_:=(4:Int)}:ac)with out:=({({s with at_:=(4:Int)}:ac).out with Distinct:=(({s with at_:=(4:Int)}:ac).from_).Distinct}:aK)}:ac)).bind fun sc=>
  if(((({sc with out:=({sc.out with Grouped:=r}:aK)}:ac).from_).Star)&&((({sc with out:=({sc.out with Grouped:=r}:aK)}:ac).out).Grouped))then
  (some ((227:Int),({sc with out:=({sc.out with Grouped:=r}:aK)}:ac)))
  else
  (if((({sc with out:=({sc.out with Grouped:=r}:aK)}:ac).from_).Star)then
  (ja sc.kinds 0 ({sc with out:=({sc.out with Grouped:=r}:aK)}:ac))
  else
  (fJ ({sc with out:=({sc.out with Grouped:=r}:aK)}:ac)))

def mu(e:Int)(ob:ac):Option (Int×ac):=
 some (e,ob)

def fL(s:ac):Option (Int×ac):=
  if(decide ((0:Int)<((((({s with at_:=(5:Int)}:ac).from_).Having).Nodes).length:Int)))then
  ((ej ({s with at_:=(5:Int)}:ac) ((({s with at_:=(5:Int)}:ac).from_).Having) true).bind fun r=>
  mu r.2.1 ({r.2.2 with out:=({r.2.2.out with Having:=r.1}:aK)}:ac))
  else
  (mu (0:Int) ({s with at_:=(5:Int)}:ac))

def lR(e:Int)(ob:ac):Option (Int×ac):=
 some (e,ob)

def gD:Nat->Nat->Int->ac->Option (Int×ac)
 |0,i,e1,ob1=>
  lR e1 ob1
 |k1+1,i,e1,ob1=>
  (fE ([(fun(mc:ac) (mx:Unit)=>gj mc),(fun(mc:ac) (mx:Unit)=>eK mc),(fun(mc:ac) (mx:Unit)=>fA mc),(fun(mc:ac) (mx:Unit)=>eM mc),(fun(mc:ac) (mx:Unit)=>fB mc),(fun(mc:ac) (mx:Unit)=>fL mc)]) (i:Int)).bind fun fn=>
  (fn ob1 ()).bind fun r=>
  if(r.1 !=(0:Int))then
  (lR r.1 r.2)
  else
  ((gD k1) (i+1) r.1 r.2)

def kH(s:ac):Option (Int×ac):=
 gD 6 0 (0:Int) s

def eW(over:(List Int)):List aB->(List Int)->Option (List Int)
 |[],out=>
  some out
 |e::tl,out=>
  (lC e over).bind fun r=>
  (lX out ([r.1])).bind fun out1=>
  (eW over tl) out1

def iJ(s:ac)(over:(List Int)):Option (List Int):=
 eW over s.out.Items ([]:List Int)

def iy(s:ac):Option (List Int):=
 if s.out.Grouped then
 (iJ s s.groups)
 else
 (iJ s s.kinds)

def ko(nx:(List cB)->Option (List cB))(out1:List cB)(own:cB):Option (List cB):=
 (lX out1 ([own])).bind fun out2=>
 nx out2

def eO:List eG->(List cB)->Option (List cB)
 |[],out1=>
  some out1
 |e::tl,out1=>
  (fE e.Tree.Nodes (IntKind.i64.wrap ((e.Tree.Nodes.length:Int)-(1:Int)))).bind fun e1=>
  if(e.As==([]))then
  (ko (eO tl) out1 e1.Name)
  else
  (ko (eO tl) out1 e.As)

def i9(s:ac)(out:List cB):Option (List cB):=
 eO s.from_.Items out

def gG(nx1:(List cB)->Option (List cB)):List bp->(List cB)->Option (List cB)
 |[],out4=>
  nx1 out4
 |e4::tl2,out4=>
  (lX out4 ([e4.Name])).bind fun out5=>
  (gG nx1 tl2) out5

def fI(s:ac):List Int->(List cB)->Option (List cB)
 |[],out3=>
  i9 s out3
 |e2::tl1,out3=>
  (fE s.Catalog.Tables e2).bind fun e3=>
  gG (fI s tl1) e3.Columns out3

def kG(s:ac):Option (List cB):=
 if s.from_.Star then
 (fI s s.out.Tables ([]:List cB))
 else
 (i9 s ([]:List cB))

def ii:List Int->Nat->(List Int)->Option (Bool×List Int)
  |[],i,all1=>
    some (true,all1)
  |e::tl,i,all1=>
    (fE all1 (i:Int)).bind fun e1=>
    if(e1==(0:Int))then
    ((some (all1.set (i:Int).toNat e)).bind fun st=>
    (ii tl) (i+1) st)
    else
    (if((e !=(0:Int))&&(e !=e1))then
    (some (false,all1))
    else
    ((ii tl) (i+1) all1))

def mt(all:(List Int))(l1:(List Int)):Option (Bool×List Int):=
 if((all.length:Int) !=(l1.length:Int))then
 (some (false,all))
 else
 (ii l1 0 all)

def yY(k:tW)(names:(List cB)):Option (Int×Int):=
  if(k.Name==([]))then
  (if((decide (k.Number<(1:Int)))||(decide ((names.length:Int)<k.Number)))then
  (some ((0:Int),(222:Int)))
  else
  (some ((IntKind.i64.wrap (k.Number-(1:Int))),(0:Int))))
  else
  ((ed names k.Name).bind fun r=>
  if(decide (r<(0:Int)))then
  (some ((0:Int),(222:Int)))
  else
  ((cE names (IntKind.i64.wrap (r+(1:Int))) (names.length:Int)).bind fun y=>
  (eo y k.Name).bind fun r1=>
  if r1 then
  (some ((0:Int),(223:Int)))
  else
  (some (r,(0:Int)))))

def oq:List tW->bQ->bQ->Option (bQ×Int×Int)
  |[],x1,b3=>
    some (b3,(0:Int),(0:Int))
  |e1::tl1,x1,b3=>
    (yY e1 b3.Names).bind fun r2=>
    if(r2.2 !=(0:Int))then
    (some ((⟨[],[],[],[],(0:Int)⟩:bQ),(90:Int),r2.2))
    else
    ((lX b3.Order ([(⟨r2.1,e1.Desc⟩:xF)])).bind fun l6=>
    (oq tl1) x1 ({b3 with Order:=l6}:bQ))

def lj(nx:Nat->bQ->bQ->Option (bQ×Int×Int))(i:Nat)(r3:Int×ac)(x2:bQ)(b10:bQ):Option (bQ×Int×Int):=
 (lX b10.Selects ([r3.2.out])).bind fun l11=>
 nx (i+1) x2 ({b10 with Selects:=l11}:bQ)

def ij(c:au)(q:bD):List ay->Nat->bQ->bQ->Option (bQ×Int×Int)
  |[],i,x,b2=>
    oq q.Keys x b2
  |e::tl,i,x,b2=>
    (some (⟨c,e,(⟨[],[],(⟨[]⟩:aB),(⟨[]⟩:aB),false,false,[],[],[]⟩:aK),[],[],[],[],[],(0:Int)⟩:ac)).bind fun sc=>
    (kH sc).bind fun r3=>
    if(r3.1 !=(0:Int))then
    (some ((⟨[],[],[],[],(0:Int)⟩:bQ),(IntKind.i64.wrap ((IntKind.i64.wrap ((10:Int)*(i:Int)))+r3.2.at_)),r3.1))
    else
    ((iy r3.2).bind fun r4=>
    if((i:Int)==(0:Int))then
    ((kG r3.2).bind fun r5=>
    lj (ij c q tl) i r3 x ({({({({b2 with Names:=r5}:bQ)with Selects:=b2.Selects}:bQ)with Kinds:=r4}:bQ)with Order:=b2.Order}:bQ))
    else
    ((mt b2.Kinds r4).bind fun r6=>
    if(!r6.1)then
    (some ((⟨[],[],[],[],(0:Int)⟩:bQ),(IntKind.i64.wrap ((IntKind.i64.wrap ((10:Int)*(i:Int)))+(6:Int))),(229:Int)))
    else
    (lj (ij c q tl) i r3 x ({b2 with Kinds:=r6.2}:bQ))))

def qm(c:au)(q:bD):Option (bQ×Int×Int):=
  (na c).bind fun r=>
  if(r !=(0:Int))then
  (some ((⟨[],[],[],[],(0:Int)⟩:bQ),(0:Int),r))
  else
  ((vV q).bind fun r1=>
  if(r1 !=(0:Int))then
  (some ((⟨[],[],[],[],(0:Int)⟩:bQ),(0:Int),r1))
  else
  (ij c q q.Selects 0 (⟨[],[],[],[],(0:Int)⟩:bQ) ({({({(⟨[],[],[],[],q.Limit⟩:bQ)with Selects:=([]:List aK)}:bQ)with Kinds:=([]:List Int)}:bQ)with Order:=([]:List xF)}:bQ)))

def AO(s:cB):Option eG:=
 some (⟨(⟨[(⟨(2:Int),(-1:Int),(-1:Int),(⟨(0:Int),(0:Int),(0:Int),[]⟩:bZ),[],s⟩:cw)]⟩:cy),[]⟩:eG)

def uT:Option au:=
 some (⟨[(⟨[116],[(⟨[97],(2:Int)⟩:bp),(⟨[98],(3:Int)⟩:bp)],[]⟩:bH),(⟨[117],[(⟨[97],(2:Int)⟩:bp)],[]⟩:bH)]⟩:au)

def uS:Option Bool:=
  (AO ([98])).bind fun r=>
  (uT).bind fun r1=>
  (qm r1 (⟨[(⟨false,false,[r],(⟨[116],[]⟩:dj),[],(⟨[]⟩:cy),(⟨[]⟩:cy),[]⟩:ay)],[],(-1:Int)⟩:bD)).bind fun r2=>
  (uT).bind fun r3=>
  (qm r3 (bD.mk (⟨[(⟨false,false,[r],(⟨[116],[]⟩:dj),[],(⟨[]⟩:cy),(⟨[]⟩:cy),[]⟩:ay)],[],(-1:Int)⟩:bD).Selects ([(⟨[],(2:Int),false⟩:tW)]) (⟨[(⟨false,false,[r],(⟨[116],[]⟩:dj),[],(⟨[]⟩:cy),(⟨[]⟩:cy),[]⟩:ay)],[],(-1:Int)⟩:bD).Limit)).bind fun r4=>
  (if(((((r2.2.2==(0:Int))&&(r2.2.1==(0:Int)))&&(r4.2.2==(222:Int)))&&(r4.2.1==(90:Int)))&&((r2.1.Names.length:Int)==(1:Int)))then((fE r2.1.Names (0:Int)).bind fun e=>
  some (e==([98])))else some false).bind fun t=>
  (if t then((fE r2.1.Kinds (0:Int)).bind fun e1=>
  some (e1==(3:Int)))else some false).bind fun t1=>
  (if t1 then((fE r2.1.Selects (0:Int)).bind fun e2=>
  (fE e2.Items (0:Int)).bind fun e3=>
  (fE e3.Nodes (0:Int)).bind fun e4=>
  some (e4.Col==(1:Int)))else some false).bind fun t2=>
  some t2

def pc(l:(List Int))(most:Int):Option (List Int):=
 (cE l 0 (min (l.length:Int) most)).bind fun y=>
 (lX ([]:List Int) y).bind fun x=>
 some x

def mU(l:(List bH))(most:Int):Option (List bH):=
 (cE l 0 (min (l.length:Int) most)).bind fun y=>
 (lX ([]:List bH) y).bind fun x=>
 some x

def jW(l:(List bp))(most:Int):Option (List bp):=
 (cE l 0 (min (l.length:Int) most)).bind fun y=>
 (lX ([]:List bp) y).bind fun x=>
 some x

def kx:List bH->Nat->au->Option au
 |[],i,out=>
  some out
 |e::tl,i,out=>
  (fE out.Tables (i:Int)).bind fun e1=>
  (fE out.Tables (i:Int)).bind fun e2=>
  (jW e2.Columns (5:Int)).bind fun r1=>
  (pc e2.Keys (5:Int)).bind fun r2=>
  (some (out.Tables.set (i:Int).toNat ({e2 with Columns:=r1}:bH))).bind fun st=>
  (fE st (i:Int)).bind fun e3=>
  (some (st.set (i:Int).toNat ({e3 with Keys:=r2}:bH))).bind fun st1=>
  (kx tl) (i+1) ({out with Tables:=st1}:au)

def rq(c:au):Option au:=
 (mU c.Tables (5:Int)).bind fun r=>
 kx r 0 ({(⟨r⟩:au)with Tables:=r}:au)

def ml(l:(List ay))(most:Int):Option (List ay):=
 (cE l 0 (min (l.length:Int) most)).bind fun y=>
 (lX ([]:List ay) y).bind fun x=>
 some x

def lP(l:(List tW))(most:Int):Option (List tW):=
 (cE l 0 (min (l.length:Int) most)).bind fun y=>
 (lX ([]:List tW) y).bind fun x=>
 some x

def nw(l:(List eG))(most:Int):Option (List eG):=
 (cE l 0 (min (l.length:Int) most)).bind fun y=>
 (lX ([]:List eG) y).bind fun x=>
 some x

def nv(l:(List lT))(most:Int):Option (List lT):=
 (cE l 0 (min (l.length:Int) most)).bind fun y=>
 (lX ([]:List lT) y).bind fun x=>
 some x

def kW(l:(List iN))(most:Int):Option (List iN):=
 (cE l 0 (min (l.length:Int) most)).bind fun y=>
 (lX ([]:List iN) y).bind fun x=>
 some x

def nu(l:(List cw))(most:Int):Option (List cw):=
 (cE l 0 (min (l.length:Int) most)).bind fun y=>
 (lX ([]:List cw) y).bind fun x=>
 some x

def ky:List cw->Nat->cy->Option cy
 |[],i,out=>
  some out
 |e::tl,i,out=>
  (fE out.Nodes (i:Int)).bind fun e1=>
  (cE e1.Value.S 0 (min (e1.Value.S.length:Int) (60:Int))).bind fun y=>
  (cE e1.Table 0 (min (e1.Table.length:Int) (40:Int))).bind fun y1=>
  (cE e1.Name 0 (min (e1.Name.length:Int) (40:Int))).bind fun y2=>
  (some (out.Nodes.set (i:Int).toNat ({e1 with Value:=({e1.Value with S:=y}:bZ)}:cw))).bind fun st=>
  (fE st (i:Int)).bind fun e2=>
  (some (st.set (i:Int).toNat ({e2 with Table:=y1}:cw))).bind fun st1=>
  (fE st1 (i:Int)).bind fun e3=>
  (some (st1.set (i:Int).toNat ({e3 with Name:=y2}:cw))).bind fun st2=>
  (ky tl) (i+1) ({out with Nodes:=st2}:cy)

def mj(t:cy):Option cy:=
 (nu t.Nodes (80:Int)).bind fun r=>
 ky r 0 ({(⟨r⟩:cy)with Nodes:=r}:cy)

def mI(nx:Nat->bD->Option bD)(i:Nat)(q1:bD):List lT->Nat->ay->Option bD
 |[],i2,s1=>
  (mj s1.Where).bind fun r5=>
  (mj s1.Having).bind fun r6=>
  (some (q1.Selects.set (i:Int).toNat ({({({({s1 with Where:=r5}:ay)with Having:=r6}:ay)with Items:=s1.Items}:ay)with Joins:=s1.Joins}:ay))).bind fun st=>
  nx (i+1) ({q1 with Selects:=st}:bD)
 |e4::tl2,i2,s1=>
  (fE s1.Joins (i2:Int)).bind fun e5=>
  (fE s1.Joins (i2:Int)).bind fun e6=>
  (mj e6.On).bind fun r7=>
  (some (s1.Joins.set (i2:Int).toNat ({e6 with On:=r7}:lT))).bind fun st1=>
  (mI nx i q1 tl2) (i2+1) ({s1 with Joins:=st1}:ay)

def mJ(nx:Nat->bD->Option bD)(i:Nat)(q1:bD):List eG->Nat->ay->Option bD
 |[],i1,s=>
  mI nx i q1 s.Joins 0 s
 |e3::tl1,i1,s=>
  (fE s.Items (i1:Int)).bind fun e7=>
  (fE s.Items (i1:Int)).bind fun e8=>
  (mj e8.Tree).bind fun r8=>
  (some (s.Items.set (i1:Int).toNat ({e8 with Tree:=r8}:eG))).bind fun st2=>
  (mJ nx i q1 tl1) (i1+1) ({s with Items:=st2}:ay)

def jj:List ay->Nat->bD->Option bD
 |[],i,q1=>
  some q1
 |e::tl,i,q1=>
  (fE q1.Selects (i:Int)).bind fun e1=>
  (fE q1.Selects (i:Int)).bind fun e2=>
  (nw e2.Items (7:Int)).bind fun r2=>
  (nv e2.Joins (3:Int)).bind fun r3=>
  (kW e2.Group (4:Int)).bind fun r4=>
  mJ (jj tl) i q1 r2 0 ({({({e2 with Group:=r4}:ay)with Items:=r2}:ay)with Joins:=r3}:ay)

def vK(q:bD):Option bD:=
 (ml q.Selects (4:Int)).bind fun r=>
 (lP q.Keys (4:Int)).bind fun r1=>
 jj r 0 ({({q with Keys:=r1}:bD)with Selects:=r}:bD)

def AJ(tag:Int):Option Int:=
  if((decide (tag<(1:Int)))||(decide ((23:Int)<tag)))then
  (some (-1:Int))
  else
  (if(decide (tag<=(3:Int)))then
  (some (0:Int))
  else
  (if(decide (tag<=(11:Int)))then
  (some (1:Int))
  else
  (some (2:Int))))

def nG(v:bZ):Option Bool:=
  if(v.Kind==(0:Int))then
  (some (decide (v=(⟨(0:Int),(0:Int),(0:Int),[]⟩:bZ))))
  else
  (if(v.Kind==(1:Int))then
  (some (((v.U==(0:Int))&&(v.S==([])))&&((v.N==(0:Int))||(v.N==(1:Int)))))
  else
  (if(v.Kind==(2:Int))then
  (some ((v.U==(0:Int))&&(v.S==([]))))
  else
  (if(v.Kind==(3:Int))then
  (some (((v.N==(0:Int))&&(v.U==(0:Int)))&&(decide ((v.S.length:Int)<=(40:Int)))))
  else
  (some ((v.Kind==(4:Int))&&(v.S==([])))))))

def uP(v:bZ):Option Bool:=
 (nG v).bind fun r=>
 some (r&&(v.Kind !=(4:Int)))

def o4(c:au)(name:cB):Nat->Int->Option Int
  |0,_=>none
  |n+1,i=>
    if(decide (i<(c.Tables.length:Int)))then
    ((fE c.Tables i).bind fun e=>
    if(e.Name==name)then
    (some i)
    else
    ((o4 c name n) (IntKind.i64.wrap (i+(1:Int)))))
    else
    (some (-1:Int))

def qD(c:au)(name:cB):Option Int:=
 o4 c name nA (0:Int)

def nZ(s:dj):Option cB:=
 if(!(s.As==([])))then
 (some s.As)
 else
 (some s.Table)

def gz(b:aw)(s:dj)(r:Int):List dj->Option (Int×aw)
 |[]=>
  (lX b.sources ([s])).bind fun l=>
  (lX b.out.Tables ([r])).bind fun l1=>
  some ((0:Int),({({b with sources:=l}:aw)with out:=({({b with sources:=l}:aw).out with Tables:=l1}:aK)}:aw))
 |e::tl=>
  (nZ e).bind fun r1=>
  (nZ s).bind fun r2=>
  if(r1==r2)then
  (some ((221:Int),b))
  else
  ((gz b s r tl))

def iZ(b:aw)(s:dj):Option (Int×aw):=
 (qD b.c s.Table).bind fun r=>
 if(decide (r<(0:Int)))then
 (some ((220:Int),b))
 else
 (gz b s r b.sources)

def n4(nx:(List Int)->Option (List Int)):List bp->(List Int)->Option (List Int)
 |[],out1=>
  nx out1
 |e2::tl1,out1=>
  (lX out1 ([e2.Kind])).bind fun out2=>
  (n4 nx tl1) out2

def mf(c:au):List Int->(List Int)->Option (List Int)
 |[],out=>
  some out
 |e::tl,out=>
  (fE c.Tables e).bind fun e1=>
  n4 (mf c tl) e1.Columns out

def jn(c:au)(tables:(List Int)):Option (List Int):=
 mf c tables ([]:List Int)

def nb(t:bH)(name:cB):Nat->Int->Option Int
  |0,_=>none
  |n+1,i=>
    if(decide (i<(t.Columns.length:Int)))then
    ((fE t.Columns i).bind fun e=>
    if(e.Name==name)then
    (some i)
    else
    ((nb t name n) (IntKind.i64.wrap (i+(1:Int)))))
    else
    (some (-1:Int))

def s8(t:bH)(name:cB):Option Int:=
 nb t name nA (0:Int)

def gA(nx:Nat->Int->Int->Int->Option (Int×Int))(i:Nat)(first:Int)(e2:bH)(found1:Int)(many1:Int):Option (Int×Int):=
 nx (i+1) found1 many1 (IntKind.i64.wrap (first+(e2.Columns.length:Int)))

def fv(b:aw)(table:cB)(name:cB):List dj->Nat->Int->Int->Int->Option (Int×Int)
  |[],i,found,many,first=>
    if(many==(0:Int))then
    (some ((0:Int),(222:Int)))
    else
    (if(many==(1:Int))then
    (some (found,(0:Int)))
    else
    (some ((0:Int),(223:Int))))
  |e::tl,i,found,many,first=>
    (fE b.out.Tables (i:Int)).bind fun e1=>
    (fE b.c.Tables e1).bind fun e2=>
    (s8 e2 name).bind fun r=>
    (if(decide ((0:Int)<=r))then((if(!(table==([])))then((nZ e).bind fun r1=>
    some (table==r1))else some true).bind fun t1=>
    some t1)else some false).bind fun t=>
    if t then
    (gA (fv b table name tl) i first e2 (IntKind.i64.wrap (first+r)) (IntKind.i64.wrap (many+(1:Int))))
    else
    (gA (fv b table name tl) i first e2 found many)

def i6(b:aw)(table:cB)(name:cB):Option (Int×Int):=
 fv b table name b.sources 0 (0:Int) (0:Int) (0:Int)

def o6(nx1:aB->Option aB)(out1:aB)(n1:ap):Option aB:=
 (lX out1.Nodes ([n1])).bind fun l5=>
 nx1 ({out1 with Nodes:=l5}:aB)

def sa(out:aB)(nx1:aB->Option aB)(out1:aB)(n:ap):Option aB:=
 if(decide ((0:Int)<=n.R))then
 (o6 nx1 out1 (ap.mk n.Tag n.L (IntKind.i64.wrap (n.R+(out.Nodes.length:Int))) n.Col n.Value))
 else
 (o6 nx1 out1 n)

def eJ(nx:Nat->ap->aB->Option aB)(i:Nat)(root1:ap)(out:aB):List ap->aB->Option aB
 |[],out1=>
  if((i:Int)==(0:Int))then
  (nx (i+1) (ap.mk root1.Tag (IntKind.i64.wrap ((out1.Nodes.length:Int)-(1:Int))) root1.R root1.Col root1.Value) out1)
  else
  (nx (i+1) (ap.mk root1.Tag root1.L (IntKind.i64.wrap ((out1.Nodes.length:Int)-(1:Int))) root1.Col root1.Value) out1)
 |e1::tl1,out1=>
  if(decide ((0:Int)<=e1.L))then
  (sa out (eJ nx i root1 out tl1) out1 (ap.mk e1.Tag (IntKind.i64.wrap (e1.L+(out.Nodes.length:Int))) e1.R e1.Col e1.Value))
  else
  (sa out (eJ nx i root1 out tl1) out1 e1)

def j8:List aB->Nat->ap->aB->Option aB
 |[],i,root1,out=>
  (lX out.Nodes ([root1])).bind fun l2=>
  some ({out with Nodes:=l2}:aB)
 |e::tl,i,root1,out=>
  eJ (j8 tl) i root1 out e.Nodes out

def ff(root:ap)(l:(List aB)):Option aB:=
 j8 l 0 (ap.mk root.Tag (-1:Int) (-1:Int) root.Col root.Value) ({(⟨[]⟩:aB)with Nodes:=([]:List ap)}:aB)

def uO(tag:Int):Option Int:=
  if((tag==(3:Int))||((decide ((8:Int)<=tag))&&(decide (tag<=(11:Int)))))then
  (some (-1:Int))
  else
  ((AJ tag).bind fun r=>
  some r)

def ib(n:ap):Option Bool:=
  if(n.Tag==(1:Int))then
  ((uP n.Value).bind fun r=>
  some (r&&(n.Col==(0:Int))))
  else
  (if(n.Tag==(2:Int))then
  (some (((decide (n.Value=(⟨(0:Int),(0:Int),(0:Int),[]⟩:bZ)))&&(decide ((0:Int)<=n.Col)))&&(decide (n.Col<(16:Int)))))
  else
  (some ((decide (n.Value=(⟨(0:Int),(0:Int),(0:Int),[]⟩:bZ)))&&(n.Col==(0:Int)))))

def ia:Nat->aB->Int->Option Int
  |0,_,_=>none
  |fu+1,e,place=>
    if((decide (place<(0:Int)))||(decide ((e.Nodes.length:Int)<=place)))then
    (some (0:Int))
    else
    ((fE e.Nodes place).bind fun e1=>
    (uO e1.Tag).bind fun r=>
    (if(!(decide (r<(0:Int))))then((ib e1).bind fun r1=>
    some (!r1))else some true).bind fun t=>
    if t then
    (some (0:Int))
    else
    (if(r==(0:Int))then
    (if((e1.L !=(-1:Int))||(e1.R !=(-1:Int)))then
    (some (0:Int))
    else
    (some (1:Int)))
    else
    (((ia fu) e (IntKind.i64.wrap (place-(1:Int)))).bind fun r2=>
    if(r2==(0:Int))then
    (some (0:Int))
    else
    (if(r==(1:Int))then
    (if((e1.L !=(IntKind.i64.wrap (place-(1:Int))))||(e1.R !=(-1:Int)))then
    (some (0:Int))
    else
    (some (IntKind.i64.wrap (r2+(1:Int)))))
    else
    (((ia fu) e (IntKind.i64.wrap ((IntKind.i64.wrap (place-(1:Int)))-r2))).bind fun r3=>
    if(((r3==(0:Int))||(e1.R !=(IntKind.i64.wrap (place-(1:Int)))))||(e1.L !=(IntKind.i64.wrap ((IntKind.i64.wrap (place-(1:Int)))-r2))))then
    (some (0:Int))
    else
    (some (IntKind.i64.wrap ((IntKind.i64.wrap (r3+r2))+(1:Int)))))))))

def Cz(e:aB)(place:Int):Option Int:=
 ia nA e place

def uN(e:aB):Option Bool:=
  (if((decide ((1:Int)<=(e.Nodes.length:Int)))&&(decide ((e.Nodes.length:Int)<=(1000:Int))))then((Cz e (IntKind.i64.wrap ((e.Nodes.length:Int)-(1:Int)))).bind fun r=>
  some (r==(e.Nodes.length:Int)))else some false).bind fun t=>
  some t

def oK(k:Int)(want:Int):Option Bool:=
 some ((k==want)||(k==(0:Int)))

def qE(tag:Int)(l:Int)(r:Int):Option (Int×Bool):=
  if((tag==(4:Int))||((decide ((12:Int)<=tag))&&(decide (tag<=(15:Int)))))then
  ((oK l (2:Int)).bind fun r1=>
  (if r1 then((oK r (2:Int)).bind fun r2=>
  some r2)else some false).bind fun t=>
  some ((2:Int),t))
  else
  (if((tag==(5:Int))||(decide ((22:Int)<=tag)))then
  ((oK l (1:Int)).bind fun r3=>
  (if r3 then((oK r (1:Int)).bind fun r4=>
  some r4)else some false).bind fun t1=>
  some ((1:Int),t1))
  else
  (if((tag==(6:Int))||(tag==(7:Int)))then
  (some ((1:Int),true))
  else
  (some ((1:Int),(((l==r)||(l==(0:Int)))||(r==(0:Int)))))))

def o8(nx2:(List Int)->Option (Int×Int))(e3:ap)(own:List Int)(e6:Int)(r1:Int):Option (Int×Int):=
  (qE e3.Tag e6 r1).bind fun r2=>
  if(!r2.2)then
  (some ((0:Int),(201:Int)))
  else
  ((lX own ([r2.1])).bind fun own3=>
  nx2 own3)

def dg(kinds:(List Int)):List ap->(List Int)->Option (Int×Int)
  |[],own=>
    (fE own (IntKind.i64.wrap ((own.length:Int)-(1:Int)))).bind fun e4=>
    some (e4,(0:Int))
  |e3::tl2,own=>
    if(e3.Tag==(1:Int))then
    ((lX own ([e3.Value.Kind])).bind fun own1=>
    (dg kinds tl2) own1)
    else
    (if(e3.Tag==(2:Int))then
    ((fE kinds e3.Col).bind fun e5=>
    (lX own ([e5])).bind fun own2=>
    (dg kinds tl2) own2)
    else
    ((fE own e3.L).bind fun e6=>
    if(decide ((0:Int)<=e3.R))then
    ((fE own e3.R).bind fun e7=>
    o8 (dg kinds tl2) e3 own e6 e7)
    else
    (o8 (dg kinds tl2) e3 own e6 (0:Int))))

def m2(e:aB)(kinds:(List Int)):List ap->Option (Int×Int)
 |[]=>
  dg kinds e.Nodes ([]:List Int)
 |e2::tl1=>
  if((e2.Tag==(2:Int))&&(decide ((kinds.length:Int)<=e2.Col)))then
  (some ((0:Int),(2:Int)))
  else
  ((m2 e kinds tl1))

def o7(e:aB)(kinds:(List Int)):List Int->Option (Int×Int)
 |[]=>
  m2 e kinds e.Nodes
 |e1::tl=>
  if((decide (e1<(0:Int)))||(decide ((3:Int)<e1)))then
  (some ((0:Int),(2:Int)))
  else
  ((o7 e kinds tl))

def oL(e:aB)(kinds:(List Int)):Option (Int×Int):=
 (uN e).bind fun r=>
 if(!r)then
 (some ((0:Int),(200:Int)))
 else
 (o7 e kinds kinds)

def o3(a1:jJ)(kinds:(List Int)):Option (Int×Bool):=
  if(a1.Tag==(1:Int))then
  (some ((2:Int),true))
  else
  ((oL a1.Arg kinds).bind fun r=>
  if((r.2 !=(0:Int))||(((a1.Tag==(3:Int))&&(r.1 !=(2:Int)))&&(r.1 !=(0:Int))))then
  (some ((0:Int),false))
  else
  (if((a1.Tag==(2:Int))||(a1.Tag==(3:Int)))then
  (some ((2:Int),true))
  else
  (some (r.1,true))))

def i7(r:(List Int)):List jJ->(List Int)->Option (List Int)
 |[],out1=>
  some out1
 |e1::tl1,out1=>
  (o3 e1 r).bind fun r1=>
  (lX out1 ([r1.1])).bind fun out2=>
  (i7 r tl1) out2

def i8(s:aK)(r:(List Int)):List Int->(List Int)->Option (List Int)
 |[],out=>
  i7 r s.Aggs out
 |e::tl,out=>
  (fE r e).bind fun e2=>
  (lX out ([e2])).bind fun out3=>
  (i8 s r tl) out3

def js(c:au)(s:aK):Option (List Int):=
 (jn c s.Tables).bind fun r=>
 i8 s r s.Keys ([]:List Int)

def jO(tag:Int):Option Bool:=
 some ((tag==(3:Int))||((decide ((8:Int)<=tag))&&(decide (tag<=(11:Int)))))

def o5(b:aB):List ap->Nat->Option Bool
 |[],i=>
  some true
 |e::tl,i=>
  (fE b.Nodes (i:Int)).bind fun e1=>
  if(!decide (e=e1))then
  (some false)
  else
  ((o5 b tl) (i+1))

def s9(a1:aB)(b:aB):Option Bool:=
 if((a1.Nodes.length:Int) !=(b.Nodes.length:Int))then
 (some false)
 else
 (o5 b a1.Nodes 0)

def kj(at1:Int)(ob:aw):Option (aB×Int×aw):=
  if(decide ((12:Int)<(ob.out.Aggs.length:Int)))then
  (some ((⟨[]⟩:aB),(228:Int),ob))
  else
  ((ff (⟨(2:Int),(0:Int),(0:Int),(IntKind.i64.wrap ((ob.out.Keys.length:Int)+at1)),(⟨(0:Int),(0:Int),(0:Int),[]⟩:bZ)⟩:ap) ([])).bind fun r2=>
  some (r2,(0:Int),ob))

def eN(b:aw)(a1:jJ):List jJ->Nat->Int->Option (aB×Int×aw)
  |[],i,at1=>
    if(at1==(b.out.Aggs.length:Int))then
    ((lX b.out.Aggs ([a1])).bind fun l6=>
    kj at1 ({b with out:=({b.out with Aggs:=l6}:aK)}:aw))
    else
    (kj at1 b)
  |e::tl,i,at1=>
    (if(e.Tag==a1.Tag)then((s9 e.Arg a1.Arg).bind fun r3=>
    some r3)else some false).bind fun t=>
    if t then
    ((eN b a1 tl) (i+1) (i:Int))
    else
    ((eN b a1 tl) (i+1) at1)

def mG(b:aw)(a1:jJ):Option (aB×Int×aw):=
 (jn b.c b.out.Tables).bind fun r=>
 (o3 a1 r).bind fun r1=>
 if(!r1.2)then
 (some ((⟨[]⟩:aB),(201:Int),b))
 else
 (eN b a1 b.out.Aggs 0 (b.out.Aggs.length:Int))

def s7(tag:Int):Option Int:=
  if(tag==(3:Int))then
  (some (1:Int))
  else
  (if(tag==(8:Int))then
  (some (2:Int))
  else
  (if(tag==(9:Int))then
  (some (3:Int))
  else
  (if(tag==(10:Int))then
  (some (4:Int))
  else
  (some (5:Int)))))

def gh(b:aw)(r1:Int×Int)(at1:Int)(x:aB):Option (aB×Int×aw):=
 (ff (⟨(2:Int),(0:Int),(0:Int),at1,(⟨(0:Int),(0:Int),(0:Int),[]⟩:bZ)⟩:ap) ([])).bind fun r2=>
 some (r2,r1.2,b)

def c0(b:aw)(r1:Int×Int):Nat->Int->Int->Option (aB×Int×aw)
  |0,_,_=>none
  |n+1,own,i1=>
    if(decide ((0:Int)<=i1))then
    ((fE b.out.Keys i1).bind fun e1=>
    if(e1==r1.1)then
    ((c0 b r1 n) i1 (IntKind.i64.wrap (i1-(1:Int))))
    else
    ((c0 b r1 n) own (IntKind.i64.wrap (i1-(1:Int)))))
    else
    (if(decide (own<(0:Int)))then
    (some ((⟨[]⟩:aB),(225:Int),b))
    else
    (gh b r1 own (⟨[]⟩:aB)))

def ge(e:cw)(arg:aB)(ob:aw)(e3:Int):Option (aB×Int×aw):=
  if(e3 !=(0:Int))then
  (some ((⟨[]⟩:aB),e3,ob))
  else
  ((s7 e.Tag).bind fun r4=>
  (mG ob (⟨r4,arg⟩:jJ)).bind fun r5=>
  some (r5.1,r5.2.1,r5.2.2))

def ip(group:Bool)(e:cw)(e2:Int)(arg:aB)(ob:aw):Option (aB×Int×aw):=
 if((e2==(0:Int))&&(!group))then
 (ge e arg ob (224:Int))
 else
 (ge e arg ob e2)

def me(out:aB)(ob1:aw)(kinds:(List Int)):Option (aB×Int×aw):=
 (oL out kinds).bind fun r10=>
 some (out,r10.2,ob1)

def io(group:Bool)(x1:aB)(out:aB)(ob1:aw):Option (aB×Int×aw):=
  (jn ob1.c ob1.out.Tables).bind fun r9=>
  if group then
  ((js ob1.c ob1.out).bind fun r11=>
  me out ob1 r11)
  else
  (me out ob1 r9)

def bP:Nat->aw->cy->Int->Bool->Option (aB×Int×aw)
  |0,_,_,_,_=>none
  |fu+1,b,t,place,group=>
    (fE t.Nodes place).bind fun e=>
    if(e.Tag==(1:Int))then
    ((ff (⟨(1:Int),(0:Int),(0:Int),(0:Int),e.Value⟩:ap) ([])).bind fun r=>
    some (r,(0:Int),b))
    else
    (if(e.Tag==(2:Int))then
    ((i6 b e.Table e.Name).bind fun r1=>
    if((r1.2==(0:Int))&&group)then
    (c0 b r1 nA (-1:Int) (IntKind.i64.wrap ((b.out.Keys.length:Int)-(1:Int))))
    else
    (gh b r1 r1.1 (⟨[]⟩:aB)))
    else
    ((jO e.Tag).bind fun r3=>
    if r3 then
    (if(decide ((0:Int)<=e.L))then
    (((bP fu) b t e.L false).bind fun r6=>
    ip group e r6.2.1 r6.1 r6.2.2)
    else
    (ip group e (0:Int) (⟨[]⟩:aB) b))
    else
    (((bP fu) b t e.L group).bind fun r7=>
    if(r7.2.1 !=(0:Int))then
    (some ((⟨[]⟩:aB),r7.2.1,r7.2.2))
    else
    ((ff (⟨e.Tag,(0:Int),(0:Int),(0:Int),(⟨(0:Int),(0:Int),(0:Int),[]⟩:bZ)⟩:ap) ([r7.1])).bind fun r8=>
    if(decide ((0:Int)<=e.R))then
    (((bP fu) r7.2.2 t e.R group).bind fun r12=>
    if(r12.2.1 !=(0:Int))then
    (some ((⟨[]⟩:aB),r12.2.1,r12.2.2))
    else
    ((ff (⟨e.Tag,(0:Int),(0:Int),(0:Int),(⟨(0:Int),(0:Int),(0:Int),[]⟩:bZ)⟩:ap) ([r7.1,r12.1])).bind fun r13=>
    io group (⟨[]⟩:aB) r13 r12.2.2))
    else
    (io group (⟨[]⟩:aB) r8 r7.2.2)))))

def rj(b:aw)(t:cy)(place:Int)(group:Bool):Option (aB×Int×aw):=
 bP nA b t place group

def jy(b:aw)(t:cy)(group:Bool):Option (aB×Int×aw):=
 (rj b t (IntKind.i64.wrap ((t.Nodes.length:Int)-(1:Int))) group).bind fun r=>
 if(r.2.1 !=(0:Int))then
 (some ((⟨[]⟩:aB),r.2.1,r.2.2))
 else
 (some (r.1,(0:Int),r.2.2))

def fO(r:aB×Int×aw)(kinds:(List Int)):Option (aB×Int×aw):=
 (oL r.1 kinds).bind fun r2=>
 if((r2.1 !=(1:Int))&&(r2.1 !=(0:Int)))then
 (some ((⟨[]⟩:aB),(226:Int),r.2.2))
 else
 (some (r.1,(0:Int),r.2.2))

def gU(b:aw)(t:cy)(group:Bool):Option (aB×Int×aw):=
  (jy b t group).bind fun r=>
  if(r.2.1 !=(0:Int))then
  (some (r.1,r.2.1,r.2.2))
  else
  ((jn r.2.2.c r.2.2.out.Tables).bind fun r1=>
  if group then
  ((js r.2.2.c r.2.2.out).bind fun r3=>
  fO r r3)
  else
  (fO r r1))

def iq:List iN->aw->Option (Int×Int×aw)
  |[],ob2=>
    some ((0:Int),(0:Int),ob2)
  |e1::tl1,ob2=>
    (i6 ob2 e1.Table e1.Name).bind fun r1=>
    if(r1.2 !=(0:Int))then
    (some ((3:Int),r1.2,ob2))
    else
    ((lX ob2.out.Keys ([r1.1])).bind fun l18=>
    (iq tl1) ({ob2 with out:=({ob2.out with Keys:=l18}:aK)}:aw))

def pp(s:ay)(ob1:aw):Option (Int×Int×aw):=
 iq s.Group ob1

def cJ(s:ay):List lT->aw->Option (Int×Int×aw)
  |[],ob=>
    if(decide ((0:Int)<(s.Where.Nodes.length:Int)))then
    ((gU ob s.Where false).bind fun r2=>
    if(r2.2.1 !=(0:Int))then
    (some ((2:Int),r2.2.1,r2.2.2))
    else
    (pp s ({r2.2.2 with out:=({r2.2.2.out with Where:=r2.1}:aK)}:aw)))
    else
    (pp s ob)
  |e::tl,ob=>
    (iZ ob e.Source).bind fun r3=>
    if(r3.1 !=(0:Int))then
    (some ((1:Int),r3.1,r3.2))
    else
    ((gU r3.2 e.On false).bind fun r4=>
    if(r4.2.1 !=(0:Int))then
    (some ((1:Int),r4.2.1,r4.2.2))
    else
    ((lX r4.2.2.out.Joins ([(⟨e.Left,r4.1⟩:ll)])).bind fun l20=>
    (cJ s tl) ({r4.2.2 with out:=({r4.2.2.out with Joins:=l20}:aK)}:aw)))

def rk(b:aw)(s:ay):Option (Int×Int×aw):=
 (iZ b s.From).bind fun r=>
 if(r.1 !=(0:Int))then
 (some ((0:Int),r.1,r.2))
 else
 (cJ s s.Joins r.2)

def p7:List cw->Option Bool
 |[]=>
  some false
 |e::tl=>
  (jO e.Tag).bind fun r=>
  if r then
  (some true)
  else
  ((p7 tl))

def EC(t:cy):Option Bool:=
 p7 t.Nodes

def ku:List eG->Bool->Option Bool
  |[],out=>
    some out
  |e::tl,out=>
    (if(!out)then((EC e.Tree).bind fun r=>
    some r)else some true).bind fun t=>
    (ku tl) t

def r0(s:ay):Option Bool:=
 ku s.Items ((decide ((0:Int)<(s.Group.length:Int)))||(decide ((0:Int)<(s.Having.Nodes.length:Int))))

def oC(ob2:aw):Option (Int×Int×aw):=
 some ((0:Int),(0:Int),ob2)

def cN(s:ay):List eG->aw->Option (Int×Int×aw)
  |[],ob1=>
    if(decide ((0:Int)<(s.Having.Nodes.length:Int)))then
    ((gU ob1 s.Having true).bind fun r1=>
    if(r1.2.1 !=(0:Int))then
    (some ((5:Int),r1.2.1,r1.2.2))
    else
    (oC ({r1.2.2 with out:=({r1.2.2.out with Having:=r1.1}:aK)}:aw)))
    else
    (oC ob1)
  |e::tl,ob1=>
    (jy ob1 e.Tree ob1.out.Grouped).bind fun r2=>
    if(r2.2.1 !=(0:Int))then
    (some ((4:Int),r2.2.1,r2.2.2))
    else
    ((lX r2.2.2.out.Items ([r2.1])).bind fun l18=>
    (cN s tl) ({r2.2.2 with out:=({r2.2.2.out with Items:=l18}:aK)}:aw))

def fP(s:ay)(ob:aw):Option (Int×Int×aw):=
 cN s s.Items ob

def jK(s:ay):List Int->Nat->aw->Option (Int×Int×aw)
 |[],i5,ob3=>
  fP s ob3
 |e1::tl1,i5,ob3=>
  (ff (⟨(2:Int),(0:Int),(0:Int),(i5:Int),(⟨(0:Int),(0:Int),(0:Int),[]⟩:bZ)⟩:ap) ([])).bind fun r4=>
  (lX ob3.out.Items ([r4])).bind fun l25=>
  (jK s tl1) (i5+1) ({ob3 with out:=({ob3.out with Items:=l25}:aK)}:aw)

def kU(b:aw)(s:ay):Option (Int×Int×aw):=
  (r0 s).bind fun r=>
  if s.Star then
  (if((({({b with out:=({b.out with Grouped:=r}:aK)}:aw)with out:=({({b with out:=({b.out with Grouped:=r}:aK)}:aw).out with Distinct:=s.Distinct}:aK)}:aw).out).Grouped)then
  (some ((4:Int),(227:Int),({({b with out:=({b.out with Grouped:=r}:aK)}:aw)with out:=({({b with out:=({b.out with Grouped:=r}:aK)}:aw).out with Distinct:=s.Distinct}:aK)}:aw)))
  else
  ((jn (({({b with out:=({b.out with Grouped:=r}:aK)}:aw)with out:=({({b with out:=({b.out with Grouped:=r}:aK)}:aw).out with Distinct:=s.Distinct}:aK)}:aw).c) b.out.Tables).bind fun r3=>
  jK s r3 0 ({({b with out:=({b.out with Grouped:=r}:aK)}:aw)with out:=({({b with out:=({b.out with Grouped:=r}:aK)}:aw).out with Distinct:=s.Distinct}:aK)}:aw)))
  else
  (fP s ({({b with out:=({b.out with Grouped:=r}:aK)}:aw)with out:=({({b with out:=({b.out with Grouped:=r}:aK)}:aw).out with Distinct:=s.Distinct}:aK)}:aw))

def jz(kinds:(List Int)):List aB->(List Int)->Option (List Int)
 |[],out=>
  some out
 |e::tl,out=>
  (oL e kinds).bind fun r1=>
  (lX out ([r1.1])).bind fun out1=>
  (jz kinds tl) out1

def nq(s:aK)(kinds:(List Int)):Option (List Int):=
 jz kinds s.Items ([]:List Int)

def tZ(c:au)(s:aK):Option (List Int):=
  (jn c s.Tables).bind fun r=>
  if s.Grouped then
  ((js c s).bind fun r2=>
  nq s r2)
  else
  (nq s r)

def qC(nx:(List cB)->Option (List cB))(out1:List cB)(own:cB):Option (List cB):=
 (lX out1 ([own])).bind fun out2=>
 nx out2

def kr:List eG->(List cB)->Option (List cB)
 |[],out1=>
  some out1
 |e::tl,out1=>
  (fE e.Tree.Nodes (IntKind.i64.wrap ((e.Tree.Nodes.length:Int)-(1:Int)))).bind fun e1=>
  if((e.As==([]))&&(e1.Tag==(2:Int)))then
  (qC (kr tl) out1 e1.Name)
  else
  (qC (kr tl) out1 e.As)

def nY(s:ay)(out:List cB):Option (List cB):=
 kr s.Items out

def mb(nx1:(List cB)->Option (List cB)):List bp->(List cB)->Option (List cB)
 |[],out4=>
  nx1 out4
 |e4::tl2,out4=>
  (lX out4 ([e4.Name])).bind fun out5=>
  (mb nx1 tl2) out5

def md(c:au)(s:ay):List Int->(List cB)->Option (List cB)
 |[],out3=>
  nY s out3
 |e2::tl1,out3=>
  (fE c.Tables e2).bind fun e3=>
  mb (md c s tl1) e3.Columns out3

def AI(c:au)(s:ay)(tables:(List Int)):Option (List cB):=
 if s.Star then
 (md c s tables ([]:List cB))
 else
 (nY s ([]:List cB))

def eQ(f:(Int->Option Bool)):List Int->Nat->Option Int
 |[],i=>
  some (-1:Int)
 |e::tl,i=>
  (f e).bind fun r=>
  if r then
  (some (i:Int))
  else
  ((eQ f tl) (i+1))

def j6(s:(List Int))(f:(Int->Option Bool)):Option Int:=
 eQ f s 0

def gm(s:(List Int))(f:(Int->Option Bool)):Option Bool:=
 (j6 s f).bind fun r=>
 some (decide ((0:Int)<=r))

def oo(c:au)(t:Int):Option Bool:=
 some ((decide (t<(0:Int)))||(decide ((c.Tables.length:Int)<=t)))

def jp(nx:(List Int)->Option (List Int)):List bp->(List Int)->Option (List Int)
 |[],out1=>
  nx out1
 |e2::tl1,out1=>
  (lX out1 ([e2.Kind])).bind fun out2=>
  (jp nx tl1) out2

def gu(c:au):List Int->(List Int)->Option (List Int)
 |[],out=>
  some out
 |e::tl,out=>
  (fE c.Tables e).bind fun e1=>
  jp (gu c tl) e1.Columns out

def qS(c:au)(tables:(List Int)):Option (List Int):=
 gu c tables ([]:List Int)

def li(c:au)(tables:(List Int)):Option ((List Int)×Int):=
  (na c).bind fun r=>
  if(r !=(0:Int))then
  (some ([],r))
  else
  ((gm tables (oo c)).bind fun r1=>
  if r1 then
  (some ([],(4:Int)))
  else
  ((qS c tables).bind fun r2=>
  some (r2,(0:Int))))

def nJ(e:aB)(kinds:(List Int)):Option Bool:=
  if((e.Nodes.length:Int)==(0:Int))then
  (some true)
  else
  ((lC e kinds).bind fun r=>
  some ((r.2==(0:Int))&&((r.1==(1:Int))||(r.1==(0:Int)))))

def gX(r2:bD)(r3:bQ×Int×Int):List xF->Option Bool
 |[]=>
  some ((((r3.1.Names.length:Int)==(r3.1.Kinds.length:Int))&&((r3.1.Order.length:Int)==(r2.Keys.length:Int)))&&(r3.1.Limit==r2.Limit))
 |e1::tl1=>
  if((decide (e1.Col<(0:Int)))||(decide ((r3.1.Kinds.length:Int)<=e1.Col)))then
  (some false)
  else
  ((gX r2 r3 tl1))

def jD(r3:bQ×Int×Int)(nx:Option Bool)(over:(List Int)):List aB->Nat->Option Bool
  |[],i3=>
    nx
  |e3::tl3,i3=>
    (lC e3 over).bind fun r7=>
    (if(!(r7.2 !=(0:Int)))then((fE r3.1.Kinds (i3:Int)).bind fun e4=>
    some ((r7.1 !=e4)&&(r7.1 !=(0:Int))))else some true).bind fun t1=>
    if t1 then
    (some false)
    else
    ((jD r3 nx over tl3) (i3+1))

def f6(r3:bQ×Int×Int)(nx:Option Bool)(e:aK)(over:(List Int)):Option Bool:=
 (nJ e.Having over).bind fun r6=>
 if((!r6)||(decide ((16:Int)<(over.length:Int))))then
 (some false)
 else
 (jD r3 nx over e.Items 0)

def gY(nx5:(List Int)->Option Bool)(over2:List Int)(k:Int):Option Bool:=
 (lX over2 ([k])).bind fun over3=>
 nx5 over3

def dA(r3:bQ×Int×Int)(nx:Option Bool)(e:aK)(r4:(List Int)×Int):List jJ->(List Int)->Option Bool
  |[],over2=>
    f6 r3 nx e over2
  |e6::tl5,over2=>
    if(e6.Tag !=(1:Int))then
    ((lC e6.Arg r4.1).bind fun r8=>
    if(r8.2 !=(0:Int))then
    (some false)
    else
    (if((e6.Tag==(4:Int))||(e6.Tag==(5:Int)))then
    (gY (dA r3 nx e r4 tl5) over2 r8.1)
    else
    (gY (dA r3 nx e r4 tl5) over2 (2:Int))))
    else
    (gY (dA r3 nx e r4 tl5) over2 (2:Int))

def gV(r3:bQ×Int×Int)(nx:Option Bool)(e:aK)(r4:(List Int)×Int):List Int->(List Int)->Option Bool
  |[],over1=>
    dA r3 nx e r4 e.Aggs over1
  |e5::tl4,over1=>
    if((decide (e5<(0:Int)))||(decide ((r4.1.length:Int)<=e5)))then
    (some false)
    else
    ((fE r4.1 e5).bind fun e7=>
    (lX over1 ([e7])).bind fun over4=>
    (gV r3 nx e r4 tl4) over4)

def gW(r1:au)(r3:bQ×Int×Int)(nx:Option Bool)(e:aK)(r4:(List Int)×Int):List ll->Nat->Option Bool
  |[],i2=>
    if e.Grouped then
    (gV r3 nx e r4 e.Keys ([]:List Int))
    else
    (if(decide ((0:Int)<(IntKind.i64.wrap ((IntKind.i64.wrap ((e.Keys.length:Int)+(e.Aggs.length:Int)))+(e.Having.Nodes.length:Int)))))then
    (some false)
    else
    (f6 r3 nx e r4.1))
  |e2::tl2,i2=>
    (cE e.Tables 0 (IntKind.i64.wrap ((i2:Int)+(2:Int)))).bind fun y1=>
    (li r1 y1).bind fun r9=>
    (if(!((r9.2 !=(0:Int))||((e2.On.Nodes.length:Int)==(0:Int))))then((nJ e2.On r9.1).bind fun r10=>
    some (!r10))else some true).bind fun t2=>
    if t2 then
    (some false)
    else
    ((gW r1 r3 nx e r4 tl2) (i2+1))

def dh(r1:au)(r2:bD)(r3:bQ×Int×Int):List aK->Option Bool
  |[]=>
    gX r2 r3 r3.1.Order
  |e::tl=>
    (li r1 e.Tables).bind fun r4=>
    (if(!(r4.2 !=(0:Int)))then((nJ e.Where r4.1).bind fun r5=>
    some (!r5))else some true).bind fun t=>
    if((t||((e.Joins.length:Int) !=(IntKind.i64.wrap ((e.Tables.length:Int)-(1:Int)))))||((e.Items.length:Int) !=(r3.1.Kinds.length:Int)))then
    (some false)
    else
    (gW r1 r3 (dh r1 r2 r3 tl) e r4 e.Joins 0)

def pQ(p:au)(y:bD):Option Bool:=
  (uS).bind fun r=>
  if(!r)then
  (some false)
  else
  ((rq p).bind fun r1=>
  (vK y).bind fun r2=>
  (qm r1 r2).bind fun r3=>
  if(r3.2.2 !=(0:Int))then
  (some ((r3.1.Selects.length:Int)==(0:Int)))
  else
  (dh r1 r2 r3 r3.1.Selects))

end Go.Proofs.YthbdkceckjihgaaGreatDoor

