/- de of this claim: F. -/
import Derived.Test.YtigldkegamffhaaGreatDoorBfD
import Derived.Test.YtigldkegamffhaaGreatDoorBfV4
import Derived.Lib.MapU
set_option linter.all false
namespace Go.Proofs.YtigldkegamffhaaGreatDoor
open Go

def wl(c:Int):Option Bool:=
 some ((decide ((97:Int)<=c))&&(decide (c<=(122:Int))))

def d8(v:cj):List cj->Nat->Option Int
 |[],i=>
  some (-1:Int)
 |e::tl,i=>
  if(v==e)then
  (some (i:Int))
  else
  ((d8 v tl) (i+1))

def fR(s:(List cj))(v:cj):Option Int:=
 d8 v s 0

def f9(s:(List cj))(v:cj):Option Bool:=
 (fR s v).bind fun r=>
 some (decide ((0:Int)<=r))

def wU(s:cj):Option Bool:=
 (f9 Y0 s).bind fun r=>
 some r

def kg(s:cj):Option cj:=if s.length<35184372088832 then some (Lib.toUpperD s)else none

def zZ(c:Int):Option Bool:=
 some ((decide ((48:Int)<=c))&&(decide (c<=(57:Int))))

def pt:List (Int×Int)->Option Bool
  |[]=>
    some true
  |e::tl=>
    (zZ e.2).bind fun r3=>
    (if(!r3)then((wl e.2).bind fun r4=>
    some (!r4))else some false).bind fun t2=>
    if(t2&&(e.2 !=(95:Int)))then
    (some false)
    else
    ((pt tl))

def kV(s:cj):Option Bool:=
  (if(!((s==([]))||(decide ((16:Int)<(s.length:Int)))))then((td s (0:Int)).bind fun b=>
  (wl (IntKind.i32.wrap b)).bind fun r=>
  some (!r))else some true).bind fun t=>
  (if(!t)then((kg s).bind fun r1=>
  (wU r1).bind fun r2=>
  some r2)else some true).bind fun t1=>
  if t1 then
  (some false)
  else
  (pt (LQ s))

def cW(f:(bJ->Option Bool)):List bJ->Nat->Option Int
 |[],i=>
  some (-1:Int)
 |e::tl,i=>
  (f e).bind fun r=>
  if r then
  (some (i:Int))
  else
  ((cW f tl) (i+1))

def gS(s:(List bJ))(f:(bJ->Option Bool)):Option Int:=
 cW f s 0

def gc(of:(bJ->Option cj))(name:cj)(p:bJ):Option Bool:=
 (of p).bind fun r=>
 some (r==name)

def kc(l:(List bJ))(of:(bJ->Option cj))(name:cj):Option (Int×Bool):=
 (gS l (gc of name)).bind fun r=>
 some ((max r (0:Int)),decide ((0:Int)<=r))

def gW(l:(List bJ))(of:(bJ->Option cj)):List bJ->Nat->Option Bool
  |[],i=>
    some true
  |e::tl,i=>
    (of e).bind fun r=>
    (kc l of r).bind fun r1=>
    (if(!(r1.1 !=(i:Int)))then((of e).bind fun r2=>
    (kV r2).bind fun r3=>
    some (!r3))else some true).bind fun t=>
    if t then
    (some false)
    else
    ((gW l of tl) (i+1))

def mL(l:(List bJ))(of:(bJ->Option cj)):Option Bool:=
 gW l of l 0

def gh(c:bJ):Option cj:=
 some c.Name

def ki(kind:Int):Nat->Nat->Option cj
 |0,i=>
  some ([])
 |k1+1,i=>
  (ep Y1 (i:Int)).bind fun e1=>
  if(e1.kind==kind)then
  (some e1.word)
  else
  ((ki kind k1) (i+1))

def tR(kind:Int):Option cj:=
 ki kind 3 0

def gz(t:bR):List Int->Nat->Bool->Option Int
  |[],i1,ok1=>
    if(!ok1)then
    (some (211:Int))
    else
    (some (0:Int))
  |e1::tl1,i1,ok1=>
    (if((ok1&&(decide ((0:Int)<=e1)))&&(decide (e1<(t.Columns.length:Int))))then((if(!((i1:Int)==(0:Int)))then((ep t.Keys (IntKind.i64.wrap ((i1:Int)-(1:Int)))).bind fun e2=>
    some (decide (e2<e1)))else some true).bind fun t3=>
    some t3)else some false).bind fun t2=>
    (gz t tl1) (i1+1) t2

def iq(t:bR):List bJ->Bool->Option Int
  |[],ok=>
    gz t t.Keys 0 ok
  |e::tl,ok=>
    (if ok then((tR e.Kind).bind fun r2=>
    some (!(r2==([]))))else some false).bind fun t4=>
    (iq t tl) t4

def nt(t:bR):Option Int:=
  (kV t.Name).bind fun r=>
  (if((r&&(decide ((1:Int)<=(t.Columns.length:Int))))&&(decide ((t.Columns.length:Int)<=(4:Int))))then((mL t.Columns gh).bind fun r1=>
  some r1)else some false).bind fun t1=>
  iq t t.Columns t1

def lp(t:bR):Option Bool:=
 (nt t).bind fun r=>
 some (r !=(0:Int))

def bM(f:(bR->Option Bool)):List bR->Nat->Option Int
 |[],i=>
  some (-1:Int)
 |e::tl,i=>
  (f e).bind fun r=>
  if r then
  (some (i:Int))
  else
  ((bM f tl) (i+1))

def dB(s:(List bR))(f:(bR->Option Bool)):Option Int:=
 bM f s 0

def gJ(s:(List bR))(f:(bR->Option Bool)):Option Bool:=
 (dB s f).bind fun r=>
 some (decide ((0:Int)<=r))

def eD(of:(bR->Option cj))(name:cj)(p:bR):Option Bool:=
 (of p).bind fun r=>
 some (r==name)

def ib(l:(List bR))(of:(bR->Option cj))(name:cj):Option (Int×Bool):=
 (dB l (eD of name)).bind fun r=>
 some ((max r (0:Int)),decide ((0:Int)<=r))

def ii(l:(List bR))(of:(bR->Option cj)):List bR->Nat->Option Bool
  |[],i=>
    some true
  |e::tl,i=>
    (of e).bind fun r=>
    (ib l of r).bind fun r1=>
    (if(!(r1.1 !=(i:Int)))then((of e).bind fun r2=>
    (kV r2).bind fun r3=>
    some (!r3))else some true).bind fun t=>
    if t then
    (some false)
    else
    ((ii l of tl) (i+1))

def nq(l:(List bR))(of:(bR->Option cj)):Option Bool:=
 ii l of l 0

def eI(t:bR):Option cj:=
 some t.Name

def sl(c:aw):Option Int:=
  (if(!(decide ((4:Int)<(c.Tables.length:Int))))then((gJ c.Tables lp).bind fun r=>
  some r)else some true).bind fun t=>
  (if(!t)then((nq c.Tables eI).bind fun r1=>
  some (!r1))else some true).bind fun t1=>
  if t1 then
  (some (210:Int))
  else
  (some (0:Int))

def uR(n:Int):Option Bool:=
 some ((decide ((0:Int)<=n))&&(decide (n<=(2147483647:Int))))

def dI(f:(ae->Option Bool)):List ae->Nat->Option Int
 |[],i=>
  some (-1:Int)
 |e::tl,i=>
  (f e).bind fun r=>
  if r then
  (some (i:Int))
  else
  ((dI f tl) (i+1))

def gR(s:(List ae))(f:(ae->Option Bool)):Option Int:=
 dI f s 0

def eH(s:(List ae))(f:(ae->Option Bool)):Option Bool:=
 (gR s f).bind fun r=>
 some (decide ((0:Int)<=r))

def rL(s:cj):Option Bool:=
  (if(!(s==([])))then((kV s).bind fun r=>
  some r)else some true).bind fun t=>
  some t

def uQ(s:ci):Option Bool:=
  (kV s.Table).bind fun r=>
  (if r then((rL s.As).bind fun r1=>
  some r1)else some false).bind fun t=>
  some t

def fy(f:(bT->Option Bool)):List bT->Nat->Option Int
 |[],i=>
  some (-1:Int)
 |e::tl,i=>
  (f e).bind fun r=>
  if r then
  (some (i:Int))
  else
  ((fy f tl) (i+1))

def iH(s:(List bT))(f:(bT->Option Bool)):Option Int:=
 fy f s 0

def hM(s:(List bT))(f:(bT->Option Bool)):Option Bool:=
 (iH s f).bind fun r=>
 some (decide ((0:Int)<=r))

def Af(tag:Int):Option Int:=
  if((decide (tag<(1:Int)))||(decide ((23:Int)<tag)))then
  (some (-1:Int))
  else
  (if(decide (tag<=(3:Int)))then
  (some (0:Int))
  else
  (if(decide (tag<=(11:Int)))then
  (some (1:Int))
  else
  (some (2:Int))))

def kP(v1:cr):Option cr:=
 some v1

def qn(v2:cr):Option cr:=
 kP (cr.mk (0:Int) v2.N v2.U v2.S)

def qm(v:cr):Option cr:=
 qn (cr.mk v.Kind (0:Int) v.U v.S)

def qk(v3:cr):Option cr:=
 kP v3

def yy(v:cr):Option cr:=
  if(v.Kind==(1:Int))then
  (if((v.N !=(0:Int))&&(v.N !=(1:Int)))then
  (kP v)
  else
  (qm v))
  else
  (if(v.Kind==(2:Int))then
  (qm v)
  else
  (if(v.Kind==(0:Int))then
  (qn v)
  else
  (if(v.Kind==(3:Int))then
  (if(decide ((v.S.length:Int)<=(40:Int)))then
  (qk (cr.mk (0:Int) v.N v.U ([])))
  else
  (qk v))
  else
  (if(v.Kind==(4:Int))then
  (kP (cr.mk (0:Int) (0:Int) (0:Int) v.S))
  else
  (kP v)))))

def u9(v:cr):Option Int:=
 (yy v).bind fun r=>
 if(!decide (r=(⟨(0:Int),(0:Int),(0:Int),[]⟩:cr)))then
 (some (120:Int))
 else
 (some (0:Int))

def sw(v:cr):Option Bool:=
 (u9 v).bind fun r=>
 some ((r==(0:Int))&&(v.Kind !=(4:Int)))

def ou(s:cj):Nat->Int->Option Bool
  |0,_=>none
  |n+1,x=>
    if(decide (x<(s.length:Int)))then
    ((td s x).bind fun b=>
    (if(!(decide (b<(32:Int))))then((td s x).bind fun b1=>
    some (decide ((126:Int)<b1)))else some true).bind fun t=>
    if t then
    (some false)
    else
    ((ou s n) (IntKind.i64.wrap (x+(1:Int)))))
    else
    (some true)

def zw(s:cj):Option Bool:=
 ou s iB (0:Int)

def xv(n:cx):Option Bool:=
  if(n.Tag==(1:Int))then
  ((if(!((!(n.Table==([])))||(!(n.Name==([])))))then((sw n.Value).bind fun r=>
  some r)else some false).bind fun t=>
  (if(t&&(decide ((0:Int)<=n.Value.N)))then((zw n.Value.S).bind fun r1=>
  some r1)else some false).bind fun t1=>
  some t1)
  else
  (if(n.Tag==(2:Int))then
  ((if(!(!decide (n.Value=(⟨(0:Int),(0:Int),(0:Int),[]⟩:cr))))then((kV n.Name).bind fun r2=>
  some r2)else some false).bind fun t2=>
  (if t2 then((rL n.Table).bind fun r3=>
  some r3)else some false).bind fun t3=>
  some t3)
  else
  (some ((!((!(n.Table==([])))||(!(n.Name==([])))))&&(!(!decide (n.Value=(⟨(0:Int),(0:Int),(0:Int),[]⟩:cr)))))))

def oV(nx:Nat->(List kZ)->(List Int)->Option ((List kZ)×Bool))(i:Nat)(all:List kZ)(open1:List Int)(r:Int):List Int->kZ->Option ((List kZ)×Bool)
 |[],b2=>
  (lr all ([b2])).bind fun all1=>
  (dH open1 0 (IntKind.i64.wrap ((open1.length:Int)-r))).bind fun y1=>
  (lr y1 ([(i:Int)])).bind fun open2=>
  nx (i+1) all1 open2
 |e4::tl1,b2=>
  (ep all e4).bind fun e5=>
  (oV nx i all open1 r tl1) (kZ.mk ({b2 with first:=(min b2.first e5.first)}:kZ).first (max b2.depth (IntKind.i64.wrap (e5.depth+(1:Int)))))

def nw:List cx->Nat->(List kZ)->(List Int)->Option ((List kZ)×Bool)
  |[],i,all,open1=>
    (if(((open1.length:Int)==(1:Int))&&(decide ((all.length:Int)<=(300:Int))))then((ep all (IntKind.i64.wrap ((all.length:Int)-(1:Int)))).bind fun e1=>
    some (decide (e1.depth<=(20:Int))))else some false).bind fun t1=>
    some (all,t1)
  |e::tl,i,all,open1=>
    (Af e.Tag).bind fun r=>
    (if(!((decide (r<(0:Int)))||(decide ((open1.length:Int)<r))))then((xv e).bind fun r1=>
    some (!r1))else some true).bind fun t2=>
    if t2 then
    (some ([],false))
    else
    ((dH open1 (IntKind.i64.wrap ((open1.length:Int)-r)) (open1.length:Int)).bind fun y=>
    (some (vB ([(-1:Int),(-1:Int)]) y)).bind fun cp=>
    (ep cp (0:Int)).bind fun e2=>
    (if(!(e.L !=e2))then((ep cp (1:Int)).bind fun e3=>
    some (e.R !=e3))else some true).bind fun t3=>
    if t3 then
    (some ([],false))
    else
    (oV (nw tl) i all open1 r y (⟨(i:Int),(1:Int)⟩:kZ)))

def Ez(t:bT):Option ((List kZ)×Bool):=
 nw t.Nodes 0 ([]:List kZ) ([]:List Int)

def sm(t:bT):Option Int:=
 (Ez t).bind fun r=>
 if(!r.2)then
 (some (180:Int))
 else
 (some (0:Int))

def vD(t:bT):Option Bool:=
 (sm t).bind fun r=>
 some (r !=(0:Int))

def uf(l:(List bT)):Option Bool:=
 (hM l vD).bind fun r=>
 some (!r)

def ow(s:ae):Nat->Nat->Bool->Option Bool
  |0,i3,ok3=>
    some ok3
  |k1+1,i3,ok3=>
    (ep ([s.Where,s.Having]) (i3:Int)).bind fun e4=>
    (if ok3 then((if(!((e4.Nodes.length:Int)==(0:Int)))then((uf ([e4])).bind fun r1=>
    some r1)else some true).bind fun t1=>
    some t1)else some false).bind fun t=>
    (ow s k1) (i3+1) t

def mO(s:ae):List gk->Bool->Option Bool
  |[],ok2=>
    ow s 2 0 ok2
  |e2::tl2,ok2=>
    (if ok2 then((kV e2.Name).bind fun r2=>
    some r2)else some false).bind fun t2=>
    (if t2 then((rL e2.Table).bind fun r3=>
    some r3)else some false).bind fun t3=>
    (mO s tl2) t3

def mP(s:ae):List g9->Bool->Option Bool
  |[],ok1=>
    mO s s.Group ok1
  |e1::tl1,ok1=>
    (if ok1 then((uf ([e1.On])).bind fun r4=>
    some r4)else some false).bind fun t4=>
    (if t4 then((uQ e1.Source).bind fun r5=>
    some r5)else some false).bind fun t5=>
    (mP s tl1) t5

def mQ(s:ae):List ev->Bool->Option Bool
  |[],ok=>
    mP s s.Joins ok
  |e::tl,ok=>
    (if ok then((uf ([e.Tree])).bind fun r6=>
    some r6)else some false).bind fun t6=>
    (if t6 then((rL e.As).bind fun r7=>
    some r7)else some false).bind fun t7=>
    (mQ s tl) t7

def vE(s:ae):Option Bool:=
  if((((s.Star !=((s.Items.length:Int)==(0:Int)))||(decide ((6:Int)<(s.Items.length:Int))))||(decide ((2:Int)<(s.Joins.length:Int))))||(decide ((3:Int)<(s.Group.length:Int))))then
  (some false)
  else
  ((uQ s.From).bind fun r=>
  mQ s s.Items r)

def sI(s:ae):Option Bool:=
 (vE s).bind fun r=>
 some (!r)

def oW(q:be):List rQ->Bool->Option Int
  |[],ok=>
    (if(!(!ok))then((eH q.Selects sI).bind fun r1=>
    some r1)else some true).bind fun t2=>
    if t2 then
    (some (180:Int))
    else
    (some (0:Int))
  |e::tl,ok=>
    (if ok then((if(e.Name==([]))then((uR e.Number).bind fun r2=>
    some r2)else some false).bind fun t4=>
    (if(!t4)then((kV e.Name).bind fun r3=>
    some (r3&&(e.Number==(0:Int))))else some true).bind fun t5=>
    some t5)else some false).bind fun t3=>
    (oW q tl) t3

def Ag(q:be):Option Int:=
  (if(((decide ((0:Int)<(q.Selects.length:Int)))&&(decide ((q.Selects.length:Int)<=(3:Int))))&&(decide ((q.Keys.length:Int)<=(3:Int))))then((if(!(q.Limit==(-1:Int)))then((uR q.Limit).bind fun r=>
  some r)else some true).bind fun t1=>
  some t1)else some false).bind fun t=>
  oW q q.Keys t

def nr(c:aw)(name:cj):Option (Int×Bool):=
 (ib c.Tables eI name).bind fun r=>
 some (r.1,r.2)

def vC(s:ci):Option cj:=
 if(s.As==([]))then
 (some s.Table)
 else
 (some s.As)

def eE(r1:cj):List bJ->ac->Option (Int×ac)
 |[],ob=>
  some ((0:Int),ob)
 |e1::tl,ob=>
  (lr ((fj ob.alone e1.Name).getD []) ([(ob.kinds.length:Int)])).bind fun l9=>
  (some ({({ob with alone:=(ga ob.alone e1.Name l9)}:ac)with behind:=(ga ob.behind ((⟨r1,e1.Name⟩:gk).Table,(⟨r1,e1.Name⟩:gk).Name) (ob.kinds.length:Int))}:ac)).bind fun sc1=>
  (lr sc1.kinds ([e1.Kind])).bind fun l10=>
  (eE r1 tl) ({sc1 with kinds:=l10}:ac)

def dU(s:ac)(p:ci):Option (Int×ac):=
  (nr s.Catalog p.Table).bind fun r=>
  (vC p).bind fun r1=>
  if(!r.2)then
  (some ((220:Int),s))
  else
  (if((fj s.called r1).getD false)then
  (some ((221:Int),s))
  else
  ((lr s.out.Tables ([r.1])).bind fun l=>
  (some ({({s with called:=(ga s.called r1 true)}:ac)with out:=({({s with called:=(ga s.called r1 true)}:ac).out with Tables:=l}:aF)}:ac)).bind fun sc=>
  (ep sc.Catalog.Tables r.1).bind fun e=>
  eE r1 e.Columns sc))

def dk(s:ac):Option (Int×ac):=
 (dU ({s with at_:=(0:Int)}:ac) ((({s with at_:=(0:Int)}:ac).from_).From)).bind fun r=>
 some (r.1,r.2)

def rG(tag:Int):Option Int:=
  if((tag==(1:Int))||(tag==(2:Int)))then
  (some (0:Int))
  else
  (if((decide ((4:Int)<=tag))&&(decide (tag<=(7:Int))))then
  (some (1:Int))
  else
  (if((decide ((12:Int)<=tag))&&(decide (tag<=(23:Int))))then
  (some (2:Int))
  else
  (some (-1:Int))))

def vy(n:ap):Option Bool:=
  if(n.Tag==(1:Int))then
  ((sw n.Value).bind fun r=>
  some (r&&(n.Col==(0:Int))))
  else
  (if(n.Tag==(2:Int))then
  (some (((decide (n.Value=(⟨(0:Int),(0:Int),(0:Int),[]⟩:cr)))&&(decide ((0:Int)<=n.Col)))&&(decide (n.Col<(16:Int)))))
  else
  (some ((decide (n.Value=(⟨(0:Int),(0:Int),(0:Int),[]⟩:cr)))&&(n.Col==(0:Int)))))

def mH(nx:Nat->(List Int)->(List Int)->Option ((List Int)×Bool))(i:Nat)(e1:ap)(all:List Int)(open1:List Int)(r:Int):List Int->Nat->Int->(List Int)->Option ((List Int)×Bool)
  |[],i1,first,at1=>
    if(!decide (at1=([e1.L,e1.R])))then
    (some ([],false))
    else
    ((lr all ([first])).bind fun all1=>
    (dH open1 0 (IntKind.i64.wrap ((open1.length:Int)-r))).bind fun y1=>
    (lr y1 ([(i:Int)])).bind fun open2=>
    nx (i+1) all1 open2)
  |e2::tl1,i1,first,at1=>
    (ep all e2).bind fun e3=>
    (ep at1 (i1:Int)).bind fun e4=>
    (some (at1.set (i1:Int).toNat e2)).bind fun ar=>
    (mH nx i e1 all open1 r tl1) (i1+1) (min first e3) ar

def kY:List ap->Nat->(List Int)->(List Int)->Option ((List Int)×Bool)
  |[],i,all,open1=>
    some (all,(((open1.length:Int)==(1:Int))&&(decide ((all.length:Int)<=(1000:Int)))))
  |e1::tl,i,all,open1=>
    (rG e1.Tag).bind fun r=>
    (if(!((decide (r<(0:Int)))||(decide ((open1.length:Int)<r))))then((vy e1).bind fun r1=>
    some (!r1))else some true).bind fun t=>
    if t then
    (some ([],false))
    else
    ((dH open1 (IntKind.i64.wrap ((open1.length:Int)-r)) (open1.length:Int)).bind fun y=>
    mH (kY tl) i e1 all open1 r y 0 (i:Int) ([(-1:Int),(-1:Int)]))

def zi(e:aA):Option ((List Int)×Bool):=
 kY e.Nodes 0 ([]:List Int) ([]:List Int)

def pS(e:aA):Option Int:=
 (zi e).bind fun r=>
 if(!r.2)then
 (some (200:Int))
 else
 (some (0:Int))

def fe(i:Nat)(y:List Int):Nat->Nat->(List Int)->Int->Option (List Int)
  |0,i1,s1,k=>
    (dH s1 k (s1.length:Int)).bind fun y1=>
    (some (s1.take k.toNat++List.replicate y1.length (0:Int))).bind fun cl=>
    (dH cl 0 k).bind fun y2=>
    some y2
  |k2+1,i1,s1,k=>
    (IF s1 (i:Int) y.length (i1:Int)).bind fun e3=>
    (IF s1 (i:Int) y.length (IntKind.i64.wrap ((i1:Int)-(1:Int)))).bind fun e4=>
    if(e3 !=e4)then
    ((IF s1 (i:Int) y.length (i1:Int)).bind fun e5=>
    (ep s1 k).bind fun e6=>
    (some (s1.set k.toNat e5)).bind fun st=>
    (fe i y k2) (i1+1) st (IntKind.i64.wrap (k+(1:Int))))
    else
    ((fe i y k2) (i1+1) s1 k)

def gb(s:(List Int)):List Int->Nat->Option (List Int)
  |[],i=>
    some s
  |e::tl,i=>
    (ep s (IntKind.i64.wrap ((i:Int)-(1:Int)))).bind fun e1=>
    if(e==e1)then
    ((dH s (i:Int) (s.length:Int)).bind fun y=>
    fe i y (y.length-1) 1 s (i:Int))
    else
    ((gb s tl) (i+1))

def kA(s:(List Int)):Option (List Int):=
 if(decide ((s.length:Int)<(2:Int)))then
 (some s)
 else
 (gb s (s.drop (1)) 1)

def nj:List ap->(List Int)->Option (List Int)
  |[],out=>
    (Gu out).bind fun srt=>
    (kA srt).bind fun r1=>
    some r1
  |e1::tl,out=>
    if(e1.Tag==(2:Int))then
    ((lr out ([e1.Col])).bind fun out1=>
    (nj tl) out1)
    else
    ((nj tl) out)

def wt(e:aA):Option (List Int):=
 (pS e).bind fun r=>
 if(r !=(0:Int))then
 (some ([]:List Int))
 else
 (nj e.Nodes ([]:List Int))

def lw(s:(List Int)):Option (List Int):=
 (lr ([]:List Int) s).bind fun x=>
 some x

def pD(stack:(List Int))(k:Int):Option ((List Int)×(List Int)):=
 (dH stack (IntKind.i64.wrap ((stack.length:Int)-k)) (stack.length:Int)).bind fun y=>
 (lw y).bind fun r=>
 (dH stack 0 (IntKind.i64.wrap ((stack.length:Int)-k))).bind fun y1=>
 some (r,y1)

def mF(bad:Int)(stack:List Int):Option (Int×Int):=
  if(bad !=(0:Int))then
  (some ((0:Int),bad))
  else
  ((ep stack (0:Int)).bind fun e1=>
  some (e1,(0:Int)))

def iQ(do1:(ap->(List Int)->Option (Int×Int))):List ap->Int->(List Int)->Option (Int×Int)
  |[],bad1,stack1=>
    mF bad1 stack1
  |e2::tl,bad1,stack1=>
    (rG e2.Tag).bind fun r=>
    (pD stack1 r).bind fun r1=>
    (do1 e2 r1.1).bind fun r2=>
    if(r2.2 !=(0:Int))then
    (mF r2.2 r1.2)
    else
    ((lr r1.2 ([r2.1])).bind fun l2=>
    (iQ do1 tl) bad1 l2)

def pu(e:aA)(do1:(ap->(List Int)->Option (Int×Int))):Option (Int×Int):=
 iQ do1 e.Nodes (0:Int) ([]:List Int)

def xP(tag:Int):Option Bool:=
 some ((tag==(4:Int))||((decide ((12:Int)<=tag))&&(decide (tag<=(15:Int)))))

def mK(kinds:(List Int))(n:ap):List Int->Int->Option (Int×Int)
  |[],own=>
    if(n.Tag==(1:Int))then
    (some (n.Value.Kind,(0:Int)))
    else
    (if(n.Tag==(2:Int))then
    ((ep kinds n.Col).bind fun e1=>
    some (e1,(0:Int)))
    else
    ((xP n.Tag).bind fun r=>
    if r then
    (if((own==(-1:Int))||((own !=(0:Int))&&(own !=(2:Int))))then
    (some ((0:Int),(201:Int)))
    else
    (some ((2:Int),(0:Int))))
    else
    (if(((n.Tag==(5:Int))||(n.Tag==(22:Int)))||(n.Tag==(23:Int)))then
    (if((own==(-1:Int))||((own !=(0:Int))&&(own !=(1:Int))))then
    (some ((0:Int),(201:Int)))
    else
    (some ((1:Int),(0:Int))))
    else
    (if((own==(-1:Int))||((own !=(0:Int))&&(own !=own)))then
    (some ((0:Int),(201:Int)))
    else
    (some ((1:Int),(0:Int)))))))
  |e::tl,own=>
    if((e==(0:Int))||(e==own))then
    ((mK kinds n tl) own)
    else
    (if(own==(0:Int))then
    ((mK kinds n tl) e)
    else
    ((mK kinds n tl) (-1:Int)))

def jZ(kinds:(List Int))(n:ap)(l:(List Int)):Option (Int×Int):=
 mK kinds n l (0:Int)

def ni(e:aA)(kinds:(List Int)):List Int->Option (Int×Int)
 |[]=>
  (pu e (jZ kinds)).bind fun r2=>
  some (r2.1,r2.2)
 |e2::tl1=>
  if(decide ((kinds.length:Int)<=e2))then
  (some ((0:Int),(2:Int)))
  else
  ((ni e kinds tl1))

def qP(e:aA)(kinds:(List Int)):List Int->Option (Int×Int)
 |[]=>
  (wt e).bind fun r1=>
  ni e kinds r1
 |e1::tl=>
  if((decide (e1<(0:Int)))||(decide ((3:Int)<e1)))then
  (some ((0:Int),(2:Int)))
  else
  ((qP e kinds tl))

def kN(e:aA)(kinds:(List Int)):Option (Int×Int):=
 (pS e).bind fun r=>
 if(r !=(0:Int))then
 (some ((0:Int),r))
 else
 (qP e kinds kinds)

def lq:Option (List (Int×Int)):=
 some (ga (ga (ga (ga (ga ([]:List (Int×Int)) (3:Int) (1:Int)) (8:Int) (2:Int)) (9:Int) (3:Int)) (10:Int) (4:Int)) (11:Int) (5:Int))

def qN(nx:(List ap)->Option (List ap))(out1:List ap)(n1:ap):Option (List ap):=
 (lr out1 ([n1])).bind fun out2=>
 nx out2

def qO(out:(List ap))(nx:(List ap)->Option (List ap))(out1:List ap)(n:ap):Option (List ap):=
 if(decide ((0:Int)<=n.R))then
 (qN nx out1 (ap.mk n.Tag n.L (IntKind.i64.wrap (n.R+(out.length:Int))) n.Col n.Value))
 else
 (qN nx out1 n)

def jR(out:(List ap)):List ap->(List ap)->Option (List ap)
 |[],out1=>
  some out1
 |e1::tl,out1=>
  if(decide ((0:Int)<=e1.L))then
  (qO out (jR out tl) out1 (ap.mk e1.Tag (IntKind.i64.wrap (e1.L+(out.length:Int))) e1.R e1.Col e1.Value))
  else
  (qO out (jR out tl) out1 e1)

def Ac(out:(List ap))(e:aA):Option (List ap):=
 jR out e.Nodes out

def jj(root:ap):List aA->Nat->(List ap)->(List Int)->Option aA
 |[],i,out,at1=>
  (ep at1 (0:Int)).bind fun e1=>
  (ep at1 (1:Int)).bind fun e2=>
  (lr out ([(ap.mk ({root with L:=e1}:ap).Tag ({root with L:=e1}:ap).L e2 ({root with L:=e1}:ap).Col ({root with L:=e1}:ap).Value)])).bind fun l2=>
  some (⟨l2⟩:aA)
 |e::tl,i,out,at1=>
  (Ac out e).bind fun r=>
  (ep at1 (i:Int)).bind fun e3=>
  (some (at1.set (i:Int).toNat (IntKind.i64.wrap ((r.length:Int)-(1:Int))))).bind fun ar=>
  (jj root tl) (i+1) r ar

def lD(root:ap)(l:(List aA)):Option aA:=
 jj root l 0 ([]:List ap) ([(-1:Int),(-1:Int)])

def nh(root:ap)(l:(List aA)):List aA->aA->Option (aA×Int)
 |[],x=>
  (lD root l).bind fun r=>
  (pS r).bind fun r1=>
  if(r1 !=(0:Int))then
  (some ((⟨[]⟩:aA),r1))
  else
  (some (r,(0:Int)))
 |e::tl,x=>
  (pS e).bind fun r2=>
  if(r2 !=(0:Int))then
  (some ((⟨[]⟩:aA),r2))
  else
  ((nh root l tl) x)

def rJ(root:ap)(l:(List aA)):Option (aA×Int):=
 nh root l l (⟨[]⟩:aA)

def ud(n:ap):Option (aA×Int):=
 (rJ n ([])).bind fun r=>
 some (r.1,r.2)

def bz(n:ap):Option (aA×Int):=
 (ud n).bind fun r=>
 some (r.1,r.2)

def gD(s:ac)(group:Bool):Option (List Int):=
 if group then
 (some s.groups)
 else
 (some s.kinds)

def fZ(s:ac)(n:gk):Option (Int×Int):=
  if(!(n.Table==([])))then
  (if(!((fj s.behind (n.Table,n.Name)).isSome))then
  (some ((0:Int),(222:Int)))
  else
  (some (((fj s.behind (n.Table,n.Name)).getD (0:Int)),(0:Int))))
  else
  (if((((fj s.alone n.Name).getD []).length:Int)==(0:Int))then
  (some ((0:Int),(222:Int)))
  else
  (if((((fj s.alone n.Name).getD []).length:Int)==(1:Int))then
  ((ep ((fj s.alone n.Name).getD []) (0:Int)).bind fun e=>
  some (e,(0:Int)))
  else
  (some ((0:Int),(223:Int)))))

def iL(v:Int):List Int->Nat->Option Int
 |[],i=>
  some (-1:Int)
 |e::tl,i=>
  if(v==e)then
  (some (i:Int))
  else
  ((iL v tl) (i+1))

def jU(s:(List Int))(v:Int):Option Int:=
 iL v s 0

def eB(f:(gj->Option Bool)):List gj->Nat->Option Int
 |[],i=>
  some (-1:Int)
 |e::tl,i=>
  (f e).bind fun r=>
  if r then
  (some (i:Int))
  else
  ((eB f tl) (i+1))

def fi(s:(List gj))(f:(gj->Option Bool)):Option Int:=
 eB f s 0

def eC(s2:(List ap)):List ap->Nat->Option Bool
 |[],i=>
  some true
 |e::tl,i=>
  (ep s2 (i:Int)).bind fun e1=>
  if(!decide (e=e1))then
  (some false)
  else
  ((eC s2 tl) (i+1))

def jb(s1:(List ap))(s2:(List ap)):Option Bool:=
 if((s1.length:Int) !=(s2.length:Int))then
 (some false)
 else
 (eC s2 s1 0)

def ln(a1:aA)(b:aA):Option Bool:=
 (jb a1.Nodes b.Nodes).bind fun r=>
 some r

def iR(c:gj)(p:gj):Option Bool:=
  (if(p.Tag==c.Tag)then((ln p.Arg c.Arg).bind fun r=>
  some r)else some false).bind fun t=>
  some t

def f6(i:Int)(ob:ac):Option (Int×Int×ac):=
 if(decide ((12:Int)<(ob.out.Aggs.length:Int)))then
 (some ((0:Int),(228:Int),ob))
 else
 (some ((IntKind.i64.wrap ((ob.out.Keys.length:Int)+i)),(0:Int),ob))

def fk(s:ac)(a1:gj)(kind:Int):Option (Int×Int×ac):=
  (fi s.out.Aggs (iR a1)).bind fun r=>
  if(decide (r<(0:Int)))then
  ((lr s.out.Aggs ([a1])).bind fun l7=>
  (lr s.groups ([kind])).bind fun l8=>
  f6 (s.out.Aggs.length:Int) ({({s with out:=({s.out with Aggs:=l7}:aF)}:ac)with groups:=l8}:ac))
  else
  (f6 r s)

def gq(s:ac)(a1:gj):Option (Int×Int×ac):=
  if(a1.Tag !=(1:Int))then
  ((kN a1.Arg s.kinds).bind fun r1=>
  if((r1.2 !=(0:Int))||(((a1.Tag==(3:Int))&&(r1.1 !=(2:Int)))&&(r1.1 !=(0:Int))))then
  (some ((0:Int),(201:Int),s))
  else
  (if((a1.Tag==(4:Int))||(a1.Tag==(5:Int)))then
  (fk s a1 r1.1)
  else
  (fk s a1 (2:Int))))
  else
  (fk s a1 (2:Int))

def uN(tag:Int)(l:aA):Option (aA×Int):=
 (rJ (⟨tag,(0:Int),(0:Int),(0:Int),(⟨(0:Int),(0:Int),(0:Int),[]⟩:cr)⟩:ap) ([l])).bind fun r=>
 some (r.1,r.2)

def wr(tag:Int)(l:aA)(r:aA):Option (aA×Int):=
 (rJ (⟨tag,(0:Int),(0:Int),(0:Int),(⟨(0:Int),(0:Int),(0:Int),[]⟩:cr)⟩:ap) ([l,r])).bind fun r1=>
 some (r1.1,r1.2)

def cD(s:ac)(leaf:(ap->Option (aA×Int)))(at1:Int)(e1:Int):Option (aA×Int×ac):=
  if(e1 !=(0:Int))then
  (some ((⟨[]⟩:aA),e1,s))
  else
  ((leaf (⟨(2:Int),(0:Int),(0:Int),at1,(⟨(0:Int),(0:Int),(0:Int),[]⟩:cr)⟩:ap)).bind fun r2=>
  some (r2.1,r2.2,s))

def dl(leaf:(ap->Option (aA×Int)))(ob:ac)(a1:gj):Option (aA×Int×ac):=
  (gq ob a1).bind fun r4=>
  if(r4.2.1 !=(0:Int))then
  (some ((⟨[]⟩:aA),r4.2.1,r4.2.2))
  else
  ((leaf (⟨(2:Int),(0:Int),(0:Int),r4.1,(⟨(0:Int),(0:Int),(0:Int),[]⟩:cr)⟩:ap)).bind fun r5=>
  some (r5.1,r5.2,r4.2.2))

def oq(x1:aA)(e5:Int)(ob1:ac):Option (aA×Int×ac):=
 some (x1,e5,ob1)

def ec(over:ac->Bool->Option ((List Int)×ac))(group:Bool)(ob:ac)(e4:Int)(x1:aA):Option (aA×Int×ac):=
  if(e4==(0:Int))then
  ((over ob (group)).bind fun r7=>
  (kN x1 r7.1).bind fun r8=>
  oq x1 r8.2 r7.2)
  else
  (oq x1 e4 ob)

def dK(leaf:(ap->Option (aA×Int)))(tags:(List (Int×Int)))(over:ac->Bool->Option ((List Int)×ac))(group:Bool)(e:cx)(parts:List aA)(x:aA)(ob:ac):Option (aA×Int×ac):=
  if((decide ((0:Int)<((fj tags e.Tag).getD (0:Int))))&&(!group))then
  (some ((⟨[]⟩:aA),(224:Int),ob))
  else
  (if(decide ((0:Int)<((fj tags e.Tag).getD (0:Int))))then
  (if(decide ((0:Int)<(parts.length:Int)))then
  ((ep parts (0:Int)).bind fun e2=>
  dl leaf ob (gj.mk (⟨((fj tags e.Tag).getD (0:Int)),(⟨[]⟩:aA)⟩:gj).Tag e2))
  else
  (dl leaf ob (⟨((fj tags e.Tag).getD (0:Int)),(⟨[]⟩:aA)⟩:gj)))
  else
  ((ep parts (0:Int)).bind fun e3=>
  (uN e.Tag e3).bind fun r6=>
  if((parts.length:Int)==(2:Int))then
  ((ep parts (1:Int)).bind fun e6=>
  (wr e.Tag e3 e6).bind fun r9=>
  ec over group ob r9.2 r9.1)
  else
  (ec over group ob r6.2 r6.1)))

def da(self__:ac->bT->(ap->Option (aA×Int))->(List (Int×Int))->(ac->Bool->Option ((List Int)×ac))->Int->Bool->Option (aA×Int×ac))(t:bT)(leaf:(ap->Option (aA×Int)))(tags:(List (Int×Int)))(over:ac->Bool->Option ((List Int)×ac))(group:Bool)(e:cx):Nat->Nat->(List aA)->aA->ac->Option (aA×Int×ac)
  |0,i3,parts1,x2,ob2=>
    dK leaf tags over group e parts1 x2 ob2
  |k1+1,i3,parts1,x2,ob2=>
    (ep ([e.L,e.R]) (i3:Int)).bind fun e8=>
    if(decide (e8<(0:Int)))then
    (dK leaf tags over group e parts1 x2 ob2)
    else
    ((self__ ob2 t leaf tags over e8 (group&&(((fj tags e.Tag).getD (0:Int))==(0:Int)))).bind fun r10=>
    if(r10.2.1 !=(0:Int))then
    (some (r10.1,r10.2.1,r10.2.2))
    else
    ((lr parts1 ([r10.1])).bind fun parts2=>
    (da self__ t leaf tags over group e k1) (i3+1) parts2 x2 r10.2.2))

def bw:Nat->ac->bT->(ap->Option (aA×Int))->(List (Int×Int))->(ac->Bool->Option ((List Int)×ac))->Int->Bool->Option (aA×Int×ac)
  |0,_,_,_,_,_,_,_=>none
  |fu+1,s,t,leaf,tags,over,i,group=>
    (ep t.Nodes i).bind fun e=>
    if(e.Tag==(1:Int))then
    ((leaf (⟨(1:Int),(0:Int),(0:Int),(0:Int),e.Value⟩:ap)).bind fun r=>
    some (r.1,r.2,s))
    else
    (if(e.Tag==(2:Int))then
    ((fZ s (⟨e.Table,e.Name⟩:gk)).bind fun r1=>
    if((r1.2==(0:Int))&&group)then
    ((jU s.out.Keys r1.1).bind fun r3=>
    if(decide (r3<(0:Int)))then
    (cD s leaf r3 (225:Int))
    else
    (cD s leaf r3 r1.2))
    else
    (cD s leaf r1.1 r1.2))
    else
    (da (bw fu) t leaf tags over group e 2 0 ([]:List aA) (⟨[]⟩:aA) s))

def qR(s:ac)(t:bT)(leaf:(ap->Option (aA×Int)))(tags:(List (Int×Int)))(over:ac->Bool->Option ((List Int)×ac))(i:Int)(group:Bool):Option (aA×Int×ac):=
 bw iB s t leaf tags over i group

def iF(s:ac)(t:bT)(group:Bool):Option (aA×Int×Int×ac):=
  (lq).bind fun r=>
  (qR s t bz r (fun(mc:ac) (mx:Bool)=>(gD mc mx).map fun mr=>(mr,mc)) (IntKind.i64.wrap ((t.Nodes.length:Int)-(1:Int))) group).bind fun r1=>
  if(r1.2.1 !=(0:Int))then
  (some ((⟨[]⟩:aA),(0:Int),r1.2.1,r1.2.2))
  else
  (((fun(mc:ac) (mx:Bool)=>(gD mc mx).map fun mr=>(mr,mc)) r1.2.2 (group)).bind fun r2=>
  (kN r1.1 r2.1).bind fun r3=>
  some (r1.1,r3.1,r3.2,r2.2))

def mj(r:aA×Int×Int×ac)(e:Int):Option (aA×Int×ac):=
 some (r.1,e,r.2.2.2)

def cC(s:ac)(t:bT)(group:Bool):Option (aA×Int×ac):=
 (iF s t group).bind fun r=>
 if(((r.2.2.1==(0:Int))&&(r.2.1 !=(1:Int)))&&(r.2.1 !=(0:Int)))then
 (mj r (226:Int))
 else
 (mj r r.2.2.1)

def dF:List g9->ac->Option (Int×ac)
  |[],ob=>
    some ((0:Int),ob)
  |e::tl,ob=>
    (dU ob e.Source).bind fun r=>
    if(r.1 !=(0:Int))then
    (some (r.1,r.2))
    else
    ((cC r.2 e.On false).bind fun r1=>
    if(r1.2.1 !=(0:Int))then
    (some (r1.2.1,r1.2.2))
    else
    ((lr r1.2.2.out.Joins ([(⟨e.Left,r1.1⟩:eS)])).bind fun l7=>
    (dF tl) ({r1.2.2 with out:=({r1.2.2.out with Joins:=l7}:aF)}:ac)))

def cS(s:ac):Option (Int×ac):=
 dF ((({s with at_:=(1:Int)}:ac).from_).Joins) ({s with at_:=(1:Int)}:ac)

def pc(e:Int)(ob:ac):Option (Int×ac):=
 some (e,ob)

def dC(s:ac):Option (Int×ac):=
  if(decide ((0:Int)<((((({s with at_:=(2:Int)}:ac).from_).Where).Nodes).length:Int)))then
  ((cC ({s with at_:=(2:Int)}:ac) ((({s with at_:=(2:Int)}:ac).from_).Where) false).bind fun r=>
  pc r.2.1 ({r.2.2 with out:=({r.2.2.out with Where:=r.1}:aF)}:ac))
  else
  (pc (0:Int) ({s with at_:=(2:Int)}:ac))

def eW:List gk->ac->Option (Int×ac)
  |[],ob=>
    some ((0:Int),ob)
  |e::tl,ob=>
    (fZ ob e).bind fun r=>
    if(r.2 !=(0:Int))then
    (some (r.2,ob))
    else
    ((lr ob.out.Keys ([r.1])).bind fun l7=>
    (ep ob.kinds r.1).bind fun e1=>
    (lr ob.groups ([e1])).bind fun l8=>
    (eW tl) ({({ob with out:=({ob.out with Keys:=l7}:aF)}:ac)with groups:=l8}:ac))

def dj(s:ac):Option (Int×ac):=
 eW ((({s with at_:=(3:Int)}:ac).from_).Group) ({s with at_:=(3:Int)}:ac)

def ee(f:(cx->Option Bool)):List cx->Nat->Option Int
 |[],i=>
  some (-1:Int)
 |e::tl,i=>
  (f e).bind fun r=>
  if r then
  (some (i:Int))
  else
  ((ee f tl) (i+1))

def iI(s:(List cx))(f:(cx->Option Bool)):Option Int:=
 ee f s 0

def fz(s:(List cx))(f:(cx->Option Bool)):Option Bool:=
 (iI s f).bind fun r=>
 some (decide ((0:Int)<=r))

def mM(tags:(List (Int×Int)))(n:cx):Option Bool:=
 some (decide ((0:Int)<((fj tags n.Tag).getD (0:Int))))

def ot(tags:(List (Int×Int)))(p:ev):Option Bool:=
 (fz p.Tree.Nodes (mM tags)).bind fun r=>
 some r

def ef(f:(ev->Option Bool)):List ev->Nat->Option Int
 |[],i=>
  some (-1:Int)
 |e::tl,i=>
  (f e).bind fun r=>
  if r then
  (some (i:Int))
  else
  ((ef f tl) (i+1))

def iJ(s:(List ev))(f:(ev->Option Bool)):Option Int:=
 ef f s 0

def fA(s:(List ev))(f:(ev->Option Bool)):Option Bool:=
 (iJ s f).bind fun r=>
 some (decide ((0:Int)<=r))

def lG(s:ae):Option Bool:=
  (lq).bind fun r=>
  (if(!((decide ((0:Int)<(s.Group.length:Int)))||(decide ((0:Int)<(s.Having.Nodes.length:Int)))))then((fA s.Items (ot r)).bind fun r1=>
  some r1)else some true).bind fun t=>
  some t

def fO:List ev->ac->Option (Int×ac)
  |[],ob1=>
    some ((0:Int),ob1)
  |e::tl,ob1=>
    (iF ob1 e.Tree ob1.out.Grouped).bind fun r1=>
    if(r1.2.2.1 !=(0:Int))then
    (some (r1.2.2.1,r1.2.2.2))
    else
    ((lr r1.2.2.2.out.Items ([r1.1])).bind fun l14=>
    (fO tl) ({r1.2.2.2 with out:=({r1.2.2.2.out with Items:=l14}:aF)}:ac))

def fP(ob:ac):Option (Int×ac):=
 fO ob.from_.Items ob

def eV:List Int->Nat->ac->Option (Int×ac)
  |[],i4,ob2=>
    fP ob2
  |e1::tl1,i4,ob2=>
    (ud (⟨(2:Int),(0:Int),(0:Int),(i4:Int),(⟨(0:Int),(0:Int),(0:Int),[]⟩:cr)⟩:ap)).bind fun r2=>
    if(r2.2 !=(0:Int))then
    (some (r2.2,ob2))
    else
    ((lr ob2.out.Items ([r2.1])).bind fun l22=>
    (eV tl1) (i4+1) ({ob2 with out:=({ob2.out with Items:=l22}:aF)}:ac))

def dG(s:ac):Option (Int×ac):=
  (lG (({s with at_:=(4:Int)}:ac).from_)).bind fun r=>
  (some ({({s with at_:=(4:Int)}:ac)with out:=({({s with at_:=(4:Int)}:ac).out with Distinct:=(({s with at_:=(4:Int)}:ac).from_).Distinct}:aF)}:ac)).bind fun sc=>
  if(((({sc with out:=({sc.out with Grouped:=r}:aF)}:ac).from_).Star)&&((({sc with out:=({sc.out with Grouped:=r}:aF)}:ac).out).Grouped))then
  (some ((227:Int),({sc with out:=({sc.out with Grouped:=r}:aF)}:ac)))
  else
  (if((({sc with out:=({sc.out with Grouped:=r}:aF)}:ac).from_).Star)then
  (eV sc.kinds 0 ({sc with out:=({sc.out with Grouped:=r}:aF)}:ac))
  else
  (fP ({sc with out:=({sc.out with Grouped:=r}:aF)}:ac)))

def oo(e:Int)(ob:ac):Option (Int×ac):=
 some (e,ob)

def dy(s:ac):Option (Int×ac):=
  if(decide ((0:Int)<((((({s with at_:=(5:Int)}:ac).from_).Having).Nodes).length:Int)))then
  ((cC ({s with at_:=(5:Int)}:ac) ((({s with at_:=(5:Int)}:ac).from_).Having) true).bind fun r=>
  oo r.2.1 ({r.2.2 with out:=({r.2.2.out with Having:=r.1}:aF)}:ac))
  else
  (oo (0:Int) ({s with at_:=(5:Int)}:ac))

def lF(e:Int)(ob:ac):Option (Int×ac):=
 some (e,ob)

def eh:Nat->Nat->Int->ac->Option (Int×ac)
 |0,i,e1,ob1=>
  lF e1 ob1
 |k1+1,i,e1,ob1=>
  (ep ([(fun(mc:ac) (mx:Unit)=>dk mc),(fun(mc:ac) (mx:Unit)=>cS mc),(fun(mc:ac) (mx:Unit)=>dC mc),(fun(mc:ac) (mx:Unit)=>dj mc),(fun(mc:ac) (mx:Unit)=>dG mc),(fun(mc:ac) (mx:Unit)=>dy mc)]) (i:Int)).bind fun fn=>
  (fn ob1 ()).bind fun r=>
  if(r.1 !=(0:Int))then
  (lF r.1 r.2)
  else
  ((eh k1) (i+1) r.1 r.2)

def eN(s:ac):Option (Int×ac):=
 eh 6 0 (0:Int) s

def gL(over:(List Int)):List aA->(List Int)->Option (List Int)
 |[],out=>
  some out
 |e::tl,out=>
  (kN e over).bind fun r=>
  (lr out ([r.1])).bind fun out1=>
  (gL over tl) out1

def ke(s:ac)(over:(List Int)):Option (List Int):=
 gL over s.out.Items ([]:List Int)

def gX(s:ac):Option (List Int):=
 if s.out.Grouped then
 (ke s s.groups)
 else
 (ke s s.kinds)

def ml(nx:(List cj)->Option (List cj))(out1:List cj)(own:cj):Option (List cj):=
 (lr out1 ([own])).bind fun out2=>
 nx out2

def dE:List ev->(List cj)->Option (List cj)
 |[],out1=>
  some out1
 |e::tl,out1=>
  (ep e.Tree.Nodes (IntKind.i64.wrap ((e.Tree.Nodes.length:Int)-(1:Int)))).bind fun e1=>
  if(e.As==([]))then
  (ml (dE tl) out1 e1.Name)
  else
  (ml (dE tl) out1 e.As)

def ik(s:ac)(out:List cj):Option (List cj):=
 dE s.from_.Items out

def jp(nx1:(List cj)->Option (List cj)):List bJ->(List cj)->Option (List cj)
 |[],out4=>
  nx1 out4
 |e4::tl2,out4=>
  (lr out4 ([e4.Name])).bind fun out5=>
  (jp nx1 tl2) out5

def dD(s:ac):List Int->(List cj)->Option (List cj)
 |[],out3=>
  ik s out3
 |e2::tl1,out3=>
  (ep s.Catalog.Tables e2).bind fun e3=>
  jp (dD s tl1) e3.Columns out3

def fW(s:ac):Option (List cj):=
 if s.from_.Star then
 (dD s s.out.Tables ([]:List cj))
 else
 (ik s ([]:List cj))

def jS:List Int->Nat->(List Int)->Option (Bool×List Int)
  |[],i,all1=>
    some (true,all1)
  |e::tl,i,all1=>
    (ep all1 (i:Int)).bind fun e1=>
    if(e1==(0:Int))then
    ((some (all1.set (i:Int).toNat e)).bind fun st=>
    (jS tl) (i+1) st)
    else
    (if((e !=(0:Int))&&(e !=e1))then
    (some (false,all1))
    else
    ((jS tl) (i+1) all1))

def nu(all:(List Int))(l1:(List Int)):Option (Bool×List Int):=
 if((all.length:Int) !=(l1.length:Int))then
 (some (false,all))
 else
 (jS l1 0 all)

def Dh(k:rQ)(names:(List cj)):Option (Int×Int):=
  if(k.Name==([]))then
  (if((decide (k.Number<(1:Int)))||(decide ((names.length:Int)<k.Number)))then
  (some ((0:Int),(222:Int)))
  else
  (some ((IntKind.i64.wrap (k.Number-(1:Int))),(0:Int))))
  else
  ((fR names k.Name).bind fun r=>
  if(decide (r<(0:Int)))then
  (some ((0:Int),(222:Int)))
  else
  ((dH names (IntKind.i64.wrap (r+(1:Int))) (names.length:Int)).bind fun y=>
  (f9 y k.Name).bind fun r1=>
  if r1 then
  (some ((0:Int),(223:Int)))
  else
  (some (r,(0:Int)))))

def qS:List rQ->bf->bf->Option (bf×Int×Int)
  |[],x1,b3=>
    some (b3,(0:Int),(0:Int))
  |e1::tl1,x1,b3=>
    (Dh e1 b3.Names).bind fun r2=>
    if(r2.2 !=(0:Int))then
    (some ((⟨[],[],[],[],(0:Int)⟩:bf),(90:Int),r2.2))
    else
    ((lr b3.Order ([(⟨r2.1,e1.Desc⟩:xD)])).bind fun l6=>
    (qS tl1) x1 ({b3 with Order:=l6}:bf))

def gE(nx:Nat->bf->bf->Option (bf×Int×Int))(i:Nat)(r3:Int×ac)(x2:bf)(b10:bf):Option (bf×Int×Int):=
 (lr b10.Selects ([r3.2.out])).bind fun l11=>
 nx (i+1) x2 ({b10 with Selects:=l11}:bf)

def dn(c:aw)(q:be):List ae->Nat->bf->bf->Option (bf×Int×Int)
  |[],i,x,b2=>
    qS q.Keys x b2
  |e::tl,i,x,b2=>
    (some (⟨c,e,(⟨[],[],(⟨[]⟩:aA),(⟨[]⟩:aA),false,false,[],[],[]⟩:aF),[],[],[],[],[],(0:Int)⟩:ac)).bind fun sc=>
    (eN sc).bind fun r3=>
    if(r3.1 !=(0:Int))then
    (some ((⟨[],[],[],[],(0:Int)⟩:bf),(IntKind.i64.wrap ((IntKind.i64.wrap ((10:Int)*(i:Int)))+r3.2.at_)),r3.1))
    else
    ((gX r3.2).bind fun r4=>
    if((i:Int)==(0:Int))then
    ((fW r3.2).bind fun r5=>
    gE (dn c q tl) i r3 x ({({({({b2 with Names:=r5}:bf)with Selects:=b2.Selects}:bf)with Kinds:=r4}:bf)with Order:=b2.Order}:bf))
    else
    ((nu b2.Kinds r4).bind fun r6=>
    if(!r6.1)then
    (some ((⟨[],[],[],[],(0:Int)⟩:bf),(IntKind.i64.wrap ((IntKind.i64.wrap ((10:Int)*(i:Int)))+(6:Int))),(229:Int)))
    else
    (gE (dn c q tl) i r3 x ({b2 with Kinds:=r6.2}:bf))))

def mN(c:aw)(q:be):Option (bf×Int×Int):=
  (sl c).bind fun r=>
  if(r !=(0:Int))then
  (some ((⟨[],[],[],[],(0:Int)⟩:bf),(0:Int),r))
  else
  ((Ag q).bind fun r1=>
  if(r1 !=(0:Int))then
  (some ((⟨[],[],[],[],(0:Int)⟩:bf),(0:Int),r1))
  else
  (dn c q q.Selects 0 (⟨[],[],[],[],(0:Int)⟩:bf) ({({({(⟨[],[],[],[],q.Limit⟩:bf)with Selects:=([]:List aF)}:bf)with Kinds:=([]:List Int)}:bf)with Order:=([]:List xD)}:bf)))

def Fb(s:cj):Option ev:=
 some (⟨(⟨[(⟨(2:Int),(-1:Int),(-1:Int),(⟨(0:Int),(0:Int),(0:Int),[]⟩:cr),[],s⟩:cx)]⟩:bT),[]⟩:ev)

def yZ:Option aw:=
 some (⟨[(⟨[116],[(⟨[97],(2:Int)⟩:bJ),(⟨[98],(3:Int)⟩:bJ)],[]⟩:bR),(⟨[117],[(⟨[97],(2:Int)⟩:bJ)],[]⟩:bR)]⟩:aw)

def yY:Option Bool:=
  (Fb ([98])).bind fun r=>
  (yZ).bind fun r1=>
  (mN r1 (⟨[(⟨false,false,[r],(⟨[116],[]⟩:ci),[],(⟨[]⟩:bT),(⟨[]⟩:bT),[]⟩:ae)],[],(-1:Int)⟩:be)).bind fun r2=>
  (yZ).bind fun r3=>
  (mN r3 (be.mk (⟨[(⟨false,false,[r],(⟨[116],[]⟩:ci),[],(⟨[]⟩:bT),(⟨[]⟩:bT),[]⟩:ae)],[],(-1:Int)⟩:be).Selects ([(⟨[],(2:Int),false⟩:rQ)]) (⟨[(⟨false,false,[r],(⟨[116],[]⟩:ci),[],(⟨[]⟩:bT),(⟨[]⟩:bT),[]⟩:ae)],[],(-1:Int)⟩:be).Limit)).bind fun r4=>
  (if(((((r2.2.2==(0:Int))&&(r2.2.1==(0:Int)))&&(r4.2.2==(222:Int)))&&(r4.2.1==(90:Int)))&&((r2.1.Names.length:Int)==(1:Int)))then((ep r2.1.Names (0:Int)).bind fun e=>
  some (e==([98])))else some false).bind fun t=>
  (if t then((ep r2.1.Kinds (0:Int)).bind fun e1=>
  some (e1==(3:Int)))else some false).bind fun t1=>
  (if t1 then((ep r2.1.Selects (0:Int)).bind fun e2=>
  (ep e2.Items (0:Int)).bind fun e3=>
  (ep e3.Nodes (0:Int)).bind fun e4=>
  some (e4.Col==(1:Int)))else some false).bind fun t2=>
  some t2

def o9(l:(List bR))(most:Int):Option (List bR):=
 (dH l 0 (min (l.length:Int) most)).bind fun y=>
 (lr ([]:List bR) y).bind fun x=>
 some x

def lC(l:(List bJ))(most:Int):Option (List bJ):=
 (dH l 0 (min (l.length:Int) most)).bind fun y=>
 (lr ([]:List bJ) y).bind fun x=>
 some x

def si(l:(List Int))(most:Int):Option (List Int):=
 (dH l 0 (min (l.length:Int) most)).bind fun y=>
 (lr ([]:List Int) y).bind fun x=>
 some x

def mB:List bR->Nat->aw->Option aw
 |[],i,out=>
  some out
 |e::tl,i,out=>
  (ep out.Tables (i:Int)).bind fun e1=>
  (ep out.Tables (i:Int)).bind fun e2=>
  (lC e2.Columns (5:Int)).bind fun r1=>
  (si e2.Keys (5:Int)).bind fun r2=>
  (some (out.Tables.set (i:Int).toNat ({e2 with Columns:=r1}:bR))).bind fun st=>
  (ep st (i:Int)).bind fun e3=>
  (some (st.set (i:Int).toNat ({e3 with Keys:=r2}:bR))).bind fun st1=>
  (mB tl) (i+1) ({out with Tables:=st1}:aw)

def vj(c:aw):Option aw:=
 (o9 c.Tables (5:Int)).bind fun r=>
 mB r 0 ({(⟨r⟩:aw)with Tables:=r}:aw)

def od(l:(List ae))(most:Int):Option (List ae):=
 (dH l 0 (min (l.length:Int) most)).bind fun y=>
 (lr ([]:List ae) y).bind fun x=>
 some x

def nP(l:(List rQ))(most:Int):Option (List rQ):=
 (dH l 0 (min (l.length:Int) most)).bind fun y=>
 (lr ([]:List rQ) y).bind fun x=>
 some x

def pN(l:(List ev))(most:Int):Option (List ev):=
 (dH l 0 (min (l.length:Int) most)).bind fun y=>
 (lr ([]:List ev) y).bind fun x=>
 some x

def pM(l:(List g9))(most:Int):Option (List g9):=
 (dH l 0 (min (l.length:Int) most)).bind fun y=>
 (lr ([]:List g9) y).bind fun x=>
 some x

def pL(l:(List gk))(most:Int):Option (List gk):=
 (dH l 0 (min (l.length:Int) most)).bind fun y=>
 (lr ([]:List gk) y).bind fun x=>
 some x

def pK(l:(List cx))(most:Int):Option (List cx):=
 (dH l 0 (min (l.length:Int) most)).bind fun y=>
 (lr ([]:List cx) y).bind fun x=>
 some x

def kW:List cx->Nat->bT->Option bT
 |[],i,out=>
  some out
 |e::tl,i,out=>
  (ep out.Nodes (i:Int)).bind fun e1=>
  (dH e1.Value.S 0 (min (e1.Value.S.length:Int) (60:Int))).bind fun y=>
  (dH e1.Table 0 (min (e1.Table.length:Int) (40:Int))).bind fun y1=>
  (dH e1.Name 0 (min (e1.Name.length:Int) (40:Int))).bind fun y2=>
  (some (out.Nodes.set (i:Int).toNat ({e1 with Value:=({e1.Value with S:=y}:cr)}:cx))).bind fun st=>
  (ep st (i:Int)).bind fun e2=>
  (some (st.set (i:Int).toNat ({e2 with Table:=y1}:cx))).bind fun st1=>
  (ep st1 (i:Int)).bind fun e3=>
  (some (st1.set (i:Int).toNat ({e3 with Name:=y2}:cx))).bind fun st2=>
  (kW tl) (i+1) ({out with Nodes:=st2}:bT)

def lB(t:bT):Option bT:=
 (pK t.Nodes (80:Int)).bind fun r=>
 kW r 0 ({(⟨r⟩:bT)with Nodes:=r}:bT)

def nb(nx:Nat->be->Option be)(i:Nat)(q1:be):List g9->Nat->ae->Option be
 |[],i2,s1=>
  (lB s1.Where).bind fun r5=>
  (lB s1.Having).bind fun r6=>
  (some (q1.Selects.set (i:Int).toNat ({({({({({s1 with Where:=r5}:ae)with Having:=r6}:ae)with Items:=s1.Items}:ae)with Joins:=s1.Joins}:ae)with Group:=s1.Group}:ae))).bind fun st=>
  nx (i+1) ({q1 with Selects:=st}:be)
 |e4::tl2,i2,s1=>
  (ep s1.Joins (i2:Int)).bind fun e5=>
  (ep s1.Joins (i2:Int)).bind fun e6=>
  (lB e6.On).bind fun r7=>
  (some (s1.Joins.set (i2:Int).toNat ({e6 with On:=r7}:g9))).bind fun st1=>
  (nb nx i q1 tl2) (i2+1) ({s1 with Joins:=st1}:ae)

def nc(nx:Nat->be->Option be)(i:Nat)(q1:be):List ev->Nat->ae->Option be
 |[],i1,s=>
  nb nx i q1 s.Joins 0 s
 |e3::tl1,i1,s=>
  (ep s.Items (i1:Int)).bind fun e7=>
  (ep s.Items (i1:Int)).bind fun e8=>
  (lB e8.Tree).bind fun r8=>
  (some (s.Items.set (i1:Int).toNat ({e8 with Tree:=r8}:ev))).bind fun st2=>
  (nc nx i q1 tl1) (i1+1) ({s with Items:=st2}:ae)

def iE:List ae->Nat->be->Option be
 |[],i,q1=>
  some q1
 |e::tl,i,q1=>
  (ep q1.Selects (i:Int)).bind fun e1=>
  (ep q1.Selects (i:Int)).bind fun e2=>
  (pN e2.Items (7:Int)).bind fun r2=>
  (pM e2.Joins (3:Int)).bind fun r3=>
  (pL e2.Group (4:Int)).bind fun r4=>
  nc (iE tl) i q1 r2 0 ({({({e2 with Items:=r2}:ae)with Joins:=r3}:ae)with Group:=r4}:ae)

def oL(q:be):Option be:=
 (od q.Selects (4:Int)).bind fun r=>
 (nP q.Keys (4:Int)).bind fun r1=>
 iE r 0 ({({q with Keys:=r1}:be)with Selects:=r}:be)

def jI(from1:cj)(to1:cj):List cx->Nat->bT->Option bT
  |[],i1,out=>
    some out
  |e::tl,i1,out=>
    (ep out.Nodes (i1:Int)).bind fun e1=>
    (ep out.Nodes (i1:Int)).bind fun e2=>
    if(e2.Table==from1)then
    ((some (out.Nodes.set (i1:Int).toNat ({e2 with Table:=to1}:cx))).bind fun st=>
    (jI from1 to1 tl) (i1+1) ({out with Nodes:=st}:bT))
    else
    ((jI from1 to1 tl) (i1+1) out)

def lS(t:bT)(from1:cj)(to1:cj):Option bT:=
 (lB t).bind fun r=>
 jI from1 to1 r.Nodes 0 r

def iT(p:eS)(y:eS):Option Bool:=
  (if(p.Left==y.Left)then((ln p.On y.On).bind fun r=>
  some r)else some false).bind fun t=>
  some t

def iS(p:gj)(y:gj):Option Bool:=
  (if(p.Tag==y.Tag)then((ln p.Arg y.Arg).bind fun r=>
  some r)else some false).bind fun t=>
  some t

def il(s2:(List cj)):List cj->Nat->Option Bool
 |[],i=>
  some true
 |e::tl,i=>
  (ep s2 (i:Int)).bind fun e1=>
  if(!(e==e1))then
  (some false)
  else
  ((il s2 tl) (i+1))

def ja(s1:(List cj))(s2:(List cj)):Option Bool:=
 if((s1.length:Int) !=(s2.length:Int))then
 (some false)
 else
 (il s2 s1 0)

def j6(s2:(List Int)):List Int->Nat->Option Bool
 |[],i=>
  some true
 |e::tl,i=>
  (ep s2 (i:Int)).bind fun e1=>
  if(e !=e1)then
  (some false)
  else
  ((j6 s2 tl) (i+1))

def iM(s1:(List Int))(s2:(List Int)):Option Bool:=
 if((s1.length:Int) !=(s2.length:Int))then
 (some false)
 else
 (j6 s2 s1 0)

def gN(s2:(List xD)):List xD->Nat->Option Bool
 |[],i=>
  some true
 |e::tl,i=>
  (ep s2 (i:Int)).bind fun e1=>
  if(!decide (e=e1))then
  (some false)
  else
  ((gN s2 tl) (i+1))

def iC(s1:(List xD))(s2:(List xD)):Option Bool:=
 if((s1.length:Int) !=(s2.length:Int))then
 (some false)
 else
 (gN s2 s1 0)

def cu(s2:(List aF))(eq:(aF->aF->Option Bool)):List aF->Nat->Option Bool
 |[],i=>
  some true
 |e::tl,i=>
  (ep s2 (i:Int)).bind fun e1=>
  (eq e e1).bind fun r=>
  if(!r)then
  (some false)
  else
  ((cu s2 eq tl) (i+1))

def cB(s1:(List aF))(s2:(List aF))(eq:(aF->aF->Option Bool)):Option Bool:=
 if((s1.length:Int) !=(s2.length:Int))then
 (some false)
 else
 (cu s2 eq s1 0)

def cO(s2:(List eS))(eq:(eS->eS->Option Bool)):List eS->Nat->Option Bool
 |[],i=>
  some true
 |e::tl,i=>
  (ep s2 (i:Int)).bind fun e1=>
  (eq e e1).bind fun r=>
  if(!r)then
  (some false)
  else
  ((cO s2 eq tl) (i+1))

def cZ(s1:(List eS))(s2:(List eS))(eq:(eS->eS->Option Bool)):Option Bool:=
 if((s1.length:Int) !=(s2.length:Int))then
 (some false)
 else
 (cO s2 eq s1 0)

def dp(s2:(List gj))(eq:(gj->gj->Option Bool)):List gj->Nat->Option Bool
 |[],i=>
  some true
 |e::tl,i=>
  (ep s2 (i:Int)).bind fun e1=>
  (eq e e1).bind fun r=>
  if(!r)then
  (some false)
  else
  ((dp s2 eq tl) (i+1))

def dM(s1:(List gj))(s2:(List gj))(eq:(gj->gj->Option Bool)):Option Bool:=
 if((s1.length:Int) !=(s2.length:Int))then
 (some false)
 else
 (dp s2 eq s1 0)

def db(s2:(List aA))(eq:(aA->aA->Option Bool)):List aA->Nat->Option Bool
 |[],i=>
  some true
 |e::tl,i=>
  (ep s2 (i:Int)).bind fun e1=>
  (eq e e1).bind fun r=>
  if(!r)then
  (some false)
  else
  ((db s2 eq tl) (i+1))

def dm(s1:(List aA))(s2:(List aA))(eq:(aA->aA->Option Bool)):Option Bool:=
 if((s1.length:Int) !=(s2.length:Int))then
 (some false)
 else
 (db s2 eq s1 0)

def mX(join:(eS->eS->Option Bool))(agg:(gj->gj->Option Bool))(p:aF)(y:aF):Option Bool:=
  (if((p.Grouped==y.Grouped)&&(p.Distinct==y.Distinct))then((iM p.Tables y.Tables).bind fun r=>
  some r)else some false).bind fun t=>
  (if t then((iM p.Keys y.Keys).bind fun r1=>
  some r1)else some false).bind fun t1=>
  (if t1 then((ln p.Where y.Where).bind fun r2=>
  some r2)else some false).bind fun t2=>
  (if t2 then((ln p.Having y.Having).bind fun r3=>
  some r3)else some false).bind fun t3=>
  (if t3 then((cZ p.Joins y.Joins join).bind fun r4=>
  some r4)else some false).bind fun t4=>
  (if t4 then((dM p.Aggs y.Aggs agg).bind fun r5=>
  some r5)else some false).bind fun t5=>
  (if t5 then((dm p.Items y.Items ln).bind fun r6=>
  some r6)else some false).bind fun t6=>
  some t6

def ue(a1:bf)(b:bf):Option Bool:=
  (if(a1.Limit==b.Limit)then((ja a1.Names b.Names).bind fun r=>
  some r)else some false).bind fun t=>
  (if t then((iM a1.Kinds b.Kinds).bind fun r1=>
  some r1)else some false).bind fun t1=>
  (if t1 then((iC a1.Order b.Order).bind fun r2=>
  some r2)else some false).bind fun t2=>
  (if t2 then((cB a1.Selects b.Selects (mX iT iS)).bind fun r3=>
  some r3)else some false).bind fun t3=>
  some t3


end Go.Proofs.YtigldkegamffhaaGreatDoor

