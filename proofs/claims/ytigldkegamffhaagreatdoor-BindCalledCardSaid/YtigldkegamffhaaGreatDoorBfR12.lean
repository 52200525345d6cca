/- de of this claim: R12. -/
import Derived.Test.YtigldkegamffhaaGreatDoorBfF
set_option linter.all false
namespace Go.Proofs.YtigldkegamffhaaGreatDoor
open Go

structure ay where
 c:aw
 sources:(List ci)
 out:aF
 deriving DecidableEq,Inhabited

def ve(c:Int):Option Bool:=
 some ((decide ((97:Int)<=c))&&(decide (c<=(122:Int))))

def tG(s:cj):List cj->Option Bool
 |[]=>
  some false
 |e::tl=>
  if(e==s)then
  (some true)
  else
  ((tG s tl))

def Jc(l:(List cj))(s:cj):Option Bool:=
 tG s l

def E5:Option (List cj):=
 some ([[83,69,76,69,67,84],[68,73,83,84,73,78,67,84],[70,82,79,77],[76,69,70,84],[74,79,73,78],[79,78],[87,72,69,82,69],[71,82,79,85,80],[66,89],[72,65,86,73,78,71],[85,78,73,79,78],[65,76,76],[79,82,68,69,82],[76,73,77,73,84],[65,83,67],[68,69,83,67],[65,83],[65,78,68],[79,82],[78,79,84],[73,83],[78,85,76,76],[84,82,85,69],[70,65,76,83,69],[67,79,85,78,84],[83,85,77],[77,73,78],[77,65,88]])

def wO(s:cj):Option Bool:=
 (E5).bind fun r=>
 (Jc r s).bind fun r1=>
 some r1

def qE(nx:(List Int)->Int->Option cj)(out:List Int)(i:Int)(c1:Int):Option cj:=
 (lr out ([c1])).bind fun out1=>
 nx out1 (IntKind.i64.wrap (i+(1:Int)))

def n5(s:cj):Nat->(List Int)->Int->Option cj
  |0,_,_=>none
  |n+1,out,i=>
    if(decide (i<(s.length:Int)))then
    ((td s i).bind fun b=>
    (ve b).bind fun r=>
    if r then
    (qE (n5 s n) out i (IntKind.u8.wrap ((IntKind.u8.wrap (b-(97:Int)))+(65:Int))))
    else
    (qE (n5 s n) out i b))
    else
    (some (rf out))

def yU(s:cj):Option cj:=
 n5 s iB ([]:List Int) (0:Int)

def E4(c:Int):Option Bool:=
 some ((decide ((48:Int)<=c))&&(decide (c<=(57:Int))))

def pC(s:cj):Nat->Int->Option Bool
  |0,_=>none
  |n+1,i=>
    if(decide (i<(s.length:Int)))then
    ((td s i).bind fun b1=>
    (ve b1).bind fun r3=>
    (if(!r3)then((td s i).bind fun b2=>
    (E4 b2).bind fun r4=>
    some (!r4))else some false).bind fun t2=>
    (if t2 then((td s i).bind fun b3=>
    some (b3 !=(95:Int)))else some false).bind fun t3=>
    if t3 then
    (some false)
    else
    ((pC s n) (IntKind.i64.wrap (i+(1:Int)))))
    else
    (some true)

def tH(s:cj):Option Bool:=
  (if(!((decide ((s.length:Int)<(1:Int)))||(decide ((16:Int)<(s.length:Int)))))then((td s (0:Int)).bind fun b=>
  (ve b).bind fun r=>
  some (!r))else some true).bind fun t=>
  (if(!t)then((yU s).bind fun r1=>
  (wO r1).bind fun r2=>
  some r2)else some true).bind fun t1=>
  if t1 then
  (some false)
  else
  (pC s iB (0:Int))

def Bs(kind:Int):Option cj:=
  if(kind==(1:Int))then
  (some ([98,111,111,108]))
  else
  (if(kind==(2:Int))then
  (some ([105,110,116]))
  else
  (if(kind==(3:Int))then
  (some ([116,101,120,116]))
  else
  (some ([]))))

def mf(t:bR)(nx:Int->Option Bool)(i:Int)(e:bJ):Nat->Int->Option Bool
  |0,_=>none
  |n1+1,k=>
    if(decide (k<i))then
    ((ep t.Columns k).bind fun e1=>
    if(e1.Name==e.Name)then
    (some false)
    else
    ((mf t nx i e n1) (IntKind.i64.wrap (k+(1:Int)))))
    else
    (nx (IntKind.i64.wrap (i+(1:Int))))

def me(t:bR):Nat->Int->Option Bool
  |0,_=>none
  |n2+1,i1=>
    if(decide (i1<(t.Keys.length:Int)))then
    ((ep t.Keys i1).bind fun e2=>
    (if(!((decide (e2<(0:Int)))||(decide ((t.Columns.length:Int)<=e2))))then((if(decide ((0:Int)<i1))then((ep t.Keys (IntKind.i64.wrap (i1-(1:Int)))).bind fun e3=>
    some (decide (e2<=e3)))else some false).bind fun t3=>
    some t3)else some true).bind fun t2=>
    if t2 then
    (some false)
    else
    ((me t n2) (IntKind.i64.wrap (i1+(1:Int)))))
    else
    (some true)

def mg(t:bR):Nat->Int->Option Bool
  |0,_=>none
  |n+1,i=>
    if(decide (i<(t.Columns.length:Int)))then
    ((ep t.Columns i).bind fun e=>
    (tH e.Name).bind fun r1=>
    (if(!(!r1))then((Bs e.Kind).bind fun r2=>
    some (r2==([])))else some true).bind fun t1=>
    if t1 then
    (some false)
    else
    (mf t (mg t n) i e iB (0:Int)))
    else
    (me t iB (0:Int))

def rz(t:bR):Option Bool:=
 (tH t.Name).bind fun r=>
 if(((!r)||(decide ((t.Columns.length:Int)<(1:Int))))||(decide ((4:Int)<(t.Columns.length:Int))))then
 (some false)
 else
 (mg t iB (0:Int))

def qz(c:aw)(nx:Int->Option Bool)(i:Int)(e:bR):Nat->Int->Option Bool
  |0,_=>none
  |n1+1,k=>
    if(decide (k<i))then
    ((ep c.Tables k).bind fun e1=>
    if(e1.Name==e.Name)then
    (some false)
    else
    ((qz c nx i e n1) (IntKind.i64.wrap (k+(1:Int)))))
    else
    (nx (IntKind.i64.wrap (i+(1:Int))))

def qA(c:aw):Nat->Int->Option Bool
  |0,_=>none
  |n+1,i=>
    if(decide (i<(c.Tables.length:Int)))then
    ((ep c.Tables i).bind fun e=>
    (rz e).bind fun r=>
    if(!r)then
    (some false)
    else
    (qz c (qA c n) i e iB (0:Int)))
    else
    (some true)

def yQ(c:aw):Option Bool:=
 if(decide ((4:Int)<(c.Tables.length:Int)))then
 (some false)
 else
 (qA c iB (0:Int))

def E3:Option (List cj):=
 some ([[83,69,76,69,67,84],[68,73,83,84,73,78,67,84],[70,82,79,77],[76,69,70,84],[74,79,73,78],[79,78],[87,72,69,82,69],[71,82,79,85,80],[66,89],[72,65,86,73,78,71],[85,78,73,79,78],[65,76,76],[79,82,68,69,82],[76,73,77,73,84],[65,83,67],[68,69,83,67],[65,83],[65,78,68],[79,82],[78,79,84],[73,83],[78,85,76,76],[84,82,85,69],[70,65,76,83,69],[67,79,85,78,84],[83,85,77],[77,73,78],[77,65,88]])

def pA(nx:(List Int)->Int->Option Bool)(up:List Int)(x:Int)(c2:Int):Option Bool:=
 (lr up ([c2])).bind fun up1=>
 nx up1 (IntKind.i64.wrap (x+(1:Int)))

def nC(up:List Int)(r:(List cj)):Nat->Nat->Option Bool
 |0,i=>
  some true
 |k1+1,i=>
  (ep r (i:Int)).bind fun e1=>
  if(e1==(rf up))then
  (some false)
  else
  ((nC up r k1) (i+1))

def nD(s:cj):Nat->(List Int)->Int->Option Bool
  |0,_,_=>none
  |n+1,up,x=>
    if(decide (x<(s.length:Int)))then
    ((td s x).bind fun b2=>
    if(((!((decide ((97:Int)<=b2))&&(decide (b2<=(122:Int)))))&&((decide (b2<(48:Int)))||(decide ((57:Int)<b2))))&&(b2 !=(95:Int)))then
    (some false)
    else
    (if((decide ((97:Int)<=b2))&&(decide (b2<=(122:Int))))then
    (pA (nD s n) up x (IntKind.u8.wrap (b2-(32:Int))))
    else
    (pA (nD s n) up x b2)))
    else
    ((E3).bind fun r=>
    nC up r 28 0)

def oJ(s:cj):Option Bool:=
  (if(!((decide ((s.length:Int)<(1:Int)))||(decide ((16:Int)<(s.length:Int)))))then((td s (0:Int)).bind fun b=>
  some (decide (b<(97:Int))))else some true).bind fun t=>
  (if(!t)then((td s (0:Int)).bind fun b1=>
  some (decide ((122:Int)<b1)))else some true).bind fun t1=>
  if t1 then
  (some false)
  else
  (nD s iB ([]:List Int) (0:Int))

def nZ(s:cj):Option Bool:=
  (if(!(s==([])))then((oJ s).bind fun r=>
  some r)else some true).bind fun t=>
  some t

def vd(tag:Int):Option Int:=
  if((decide (tag<(1:Int)))||(decide ((23:Int)<tag)))then
  (some (-1:Int))
  else
  (if(decide (tag<=(3:Int)))then
  (some (0:Int))
  else
  (if(decide (tag<=(11:Int)))then
  (some (1:Int))
  else
  (some (2:Int))))

def pY(v:cr):Option Bool:=
  if(v.Kind==(0:Int))then
  (some (decide (v=(⟨(0:Int),(0:Int),(0:Int),[]⟩:cr))))
  else
  (if(v.Kind==(1:Int))then
  (some (((v.U==(0:Int))&&(v.S==([])))&&((v.N==(0:Int))||(v.N==(1:Int)))))
  else
  (if(v.Kind==(2:Int))then
  (some ((v.U==(0:Int))&&(v.S==([]))))
  else
  (if(v.Kind==(3:Int))then
  (some (((v.N==(0:Int))&&(v.U==(0:Int)))&&(decide ((v.S.length:Int)<=(40:Int)))))
  else
  (some ((v.Kind==(4:Int))&&(v.S==([])))))))

def vf(v:cr):Option Bool:=
 (pY v).bind fun r=>
 some (r&&(v.Kind !=(4:Int)))

def oI(v:cr):Nat->Int->Option Bool
  |0,_=>none
  |n+1,x=>
    if(decide (x<(v.S.length:Int)))then
    ((td v.S x).bind fun b=>
    (if(!(decide (b<(32:Int))))then((td v.S x).bind fun b1=>
    some (decide ((126:Int)<b1)))else some true).bind fun t=>
    if t then
    (some false)
    else
    ((oI v n) (IntKind.i64.wrap (x+(1:Int)))))
    else
    ((vf v).bind fun r=>
    some (r&&(decide ((0:Int)<=v.N))))

def AP(v:cr):Option Bool:=
 oI v iB (0:Int)

def wN(n:cx):Option Bool:=
  if(n.Tag==(1:Int))then
  ((AP n.Value).bind fun r=>
  some ((r&&(n.Table==([])))&&(n.Name==([]))))
  else
  (if(n.Tag==(2:Int))then
  ((if(decide (n.Value=(⟨(0:Int),(0:Int),(0:Int),[]⟩:cr)))then((oJ n.Name).bind fun r1=>
  some r1)else some false).bind fun t=>
  (if t then((nZ n.Table).bind fun r2=>
  some r2)else some false).bind fun t1=>
  some t1)
  else
  (some (((decide (n.Value=(⟨(0:Int),(0:Int),(0:Int),[]⟩:cr)))&&(n.Table==([])))&&(n.Name==([])))))

def jQ:Nat->bT->Int->Option (Int×Int)
  |0,_,_=>none
  |fu+1,t,place=>
    if((decide (place<(0:Int)))||(decide ((t.Nodes.length:Int)<=place)))then
    (some ((0:Int),(0:Int)))
    else
    ((ep t.Nodes place).bind fun e=>
    (vd e.Tag).bind fun r=>
    (if(!(decide (r<(0:Int))))then((wN e).bind fun r1=>
    some (!r1))else some true).bind fun t1=>
    if t1 then
    (some ((0:Int),(0:Int)))
    else
    (if(r==(0:Int))then
    (if((e.L !=(-1:Int))||(e.R !=(-1:Int)))then
    (some ((0:Int),(0:Int)))
    else
    (some ((1:Int),(1:Int))))
    else
    (((jQ fu) t (IntKind.i64.wrap (place-(1:Int)))).bind fun r2=>
    if(r2.1==(0:Int))then
    (some ((0:Int),(0:Int)))
    else
    (if(r==(1:Int))then
    (if((e.L !=(IntKind.i64.wrap (place-(1:Int))))||(e.R !=(-1:Int)))then
    (some ((0:Int),(0:Int)))
    else
    (some ((IntKind.i64.wrap (r2.1+(1:Int))),(IntKind.i64.wrap (r2.2+(1:Int))))))
    else
    (((jQ fu) t (IntKind.i64.wrap ((IntKind.i64.wrap (place-(1:Int)))-r2.1))).bind fun r3=>
    if(((r3.1==(0:Int))||(e.R !=(IntKind.i64.wrap (place-(1:Int)))))||(e.L !=(IntKind.i64.wrap ((IntKind.i64.wrap (place-(1:Int)))-r2.1))))then
    (some ((0:Int),(0:Int)))
    else
    (some ((IntKind.i64.wrap ((IntKind.i64.wrap (r2.1+r3.1))+(1:Int))),(IntKind.i64.wrap ((max r2.2 r3.2)+(1:Int))))))))))

def GW(t:bT)(place:Int):Option (Int×Int):=
 jQ iB t place

def nB(t:bT):Option Bool:=
  if((decide ((t.Nodes.length:Int)<(1:Int)))||(decide ((300:Int)<(t.Nodes.length:Int))))then
  (some false)
  else
  ((GW t (IntKind.i64.wrap ((t.Nodes.length:Int)-(1:Int)))).bind fun r=>
  some ((r.1==(t.Nodes.length:Int))&&(decide (r.2<=(20:Int)))))

def tF(s:ci):Option Bool:=
  (oJ s.Table).bind fun r=>
  (if r then((nZ s.As).bind fun r1=>
  some r1)else some false).bind fun t=>
  some t

def wM(t:bT):Option Bool:=
  (if(!((t.Nodes.length:Int)==(0:Int)))then((nB t).bind fun r=>
  some r)else some true).bind fun t1=>
  some t1

def mw(s:ae):List gk->Option Bool
  |[]=>
    (tF s.From).bind fun r=>
    (if r then((wM s.Where).bind fun r1=>
    some r1)else some false).bind fun t=>
    (if t then((wM s.Having).bind fun r2=>
    some r2)else some false).bind fun t1=>
    some t1
  |e2::tl2=>
    (oJ e2.Name).bind fun r3=>
    (if(!(!r3))then((nZ e2.Table).bind fun r4=>
    some (!r4))else some true).bind fun t2=>
    if t2 then
    (some false)
    else
    ((mw s tl2))

def my(s:ae):List g9->Option Bool
  |[]=>
    mw s s.Group
  |e1::tl1=>
    (tF e1.Source).bind fun r5=>
    (if(!(!r5))then((nB e1.On).bind fun r6=>
    some (!r6))else some true).bind fun t3=>
    if t3 then
    (some false)
    else
    ((my s tl1))

def mz(s:ae):List ev->Option Bool
  |[]=>
    my s s.Joins
  |e::tl=>
    (nB e.Tree).bind fun r7=>
    (if(!(!r7))then((nZ e.As).bind fun r8=>
    some (!r8))else some true).bind fun t4=>
    if t4 then
    (some false)
    else
    ((mz s tl))

def vK(s:ae):Option Bool:=
 if((((s.Star !=((s.Items.length:Int)==(0:Int)))||(decide ((6:Int)<(s.Items.length:Int))))||(decide ((2:Int)<(s.Joins.length:Int))))||(decide ((3:Int)<(s.Group.length:Int))))then
 (some false)
 else
 (mz s s.Items)

def qC:List rQ->Option Bool
 |[]=>
  some true
 |e1::tl1=>
  (nZ e1.Name).bind fun r=>
  if((((!r)||(decide (e1.Number<(0:Int))))||(decide ((2147483647:Int)<e1.Number)))||((!(e1.Name==([])))&&(e1.Number !=(0:Int))))then
  (some false)
  else
  ((qC tl1))

def n4(q:be):List ae->Option Bool
 |[]=>
  qC q.Keys
 |e::tl=>
  (vK e).bind fun r1=>
  if(!r1)then
  (some false)
  else
  ((n4 q tl))

def yT(q:be):Option Bool:=
 if(((((decide ((q.Selects.length:Int)<(1:Int)))||(decide ((3:Int)<(q.Selects.length:Int))))||(decide ((3:Int)<(q.Keys.length:Int))))||(decide (q.Limit<(-1:Int))))||(decide ((2147483647:Int)<q.Limit)))then
 (some false)
 else
 (n4 q q.Selects)

def rY(c:aw)(name:cj):Nat->Int->Option Int
  |0,_=>none
  |n+1,i=>
    if(decide (i<(c.Tables.length:Int)))then
    ((ep c.Tables i).bind fun e=>
    if(e.Name==name)then
    (some i)
    else
    ((rY c name n) (IntKind.i64.wrap (i+(1:Int)))))
    else
    (some (-1:Int))

def uB(c:aw)(name:cj):Option Int:=
 rY c name iB (0:Int)

def qw(s:ci):Option cj:=
 if(!(s.As==([])))then
 (some s.As)
 else
 (some s.Table)

def je(b:ay)(s:ci)(r:Int):List ci->Option (Int×ay)
 |[]=>
  (lr b.sources ([s])).bind fun l=>
  (lr b.out.Tables ([r])).bind fun l1=>
  some ((0:Int),({({b with sources:=l}:ay)with out:=({({b with sources:=l}:ay).out with Tables:=l1}:aF)}:ay))
 |e::tl=>
  (qw e).bind fun r1=>
  (qw s).bind fun r2=>
  if(r1==r2)then
  (some ((221:Int),b))
  else
  ((je b s r tl))

def kl(b:ay)(s:ci):Option (Int×ay):=
 (uB b.c s.Table).bind fun r=>
 if(decide (r<(0:Int)))then
 (some ((220:Int),b))
 else
 (je b s r b.sources)

def lU(nx:(List Int)->Option (List Int)):List bJ->(List Int)->Option (List Int)
 |[],out1=>
  nx out1
 |e2::tl1,out1=>
  (lr out1 ([e2.Kind])).bind fun out2=>
  (lU nx tl1) out2

def kK(c:aw):List Int->(List Int)->Option (List Int)
 |[],out=>
  some out
 |e::tl,out=>
  (ep c.Tables e).bind fun e1=>
  lU (kK c tl) e1.Columns out

def BO(c:aw)(tables:(List Int)):Option (List Int):=
 kK c tables ([]:List Int)

def qy(nx:(List Int)->Option (List Int)):List bJ->(List Int)->Option (List Int)
 |[],out1=>
  nx out1
 |e2::tl1,out1=>
  (lr out1 ([e2.Kind])).bind fun out2=>
  (qy nx tl1) out2

def nX(c:aw):List Int->(List Int)->Option (List Int)
 |[],out=>
  some out
 |e::tl,out=>
  (ep c.Tables e).bind fun e1=>
  qy (nX c tl) e1.Columns out

def kG(c:aw)(tables:(List Int)):Option (List Int):=
 nX c tables ([]:List Int)

def py(t:bR)(name:cj):Nat->Int->Option Int
  |0,_=>none
  |n+1,i=>
    if(decide (i<(t.Columns.length:Int)))then
    ((ep t.Columns i).bind fun e=>
    if(e.Name==name)then
    (some i)
    else
    ((py t name n) (IntKind.i64.wrap (i+(1:Int)))))
    else
    (some (-1:Int))

def wK(t:bR)(name:cj):Option Int:=
 py t name iB (0:Int)

def jf(nx:Nat->Int->Int->Int->Option (Int×Int))(i:Nat)(first:Int)(e2:bR)(found1:Int)(many1:Int):Option (Int×Int):=
 nx (i+1) found1 many1 (IntKind.i64.wrap (first+(e2.Columns.length:Int)))

def hU(b:ay)(table:cj)(name:cj):List ci->Nat->Int->Int->Int->Option (Int×Int)
  |[],i,found,many,first=>
    if(many==(0:Int))then
    (some ((0:Int),(222:Int)))
    else
    (if(many==(1:Int))then
    (some (found,(0:Int)))
    else
    (some ((0:Int),(223:Int))))
  |e::tl,i,found,many,first=>
    (ep b.out.Tables (i:Int)).bind fun e1=>
    (ep b.c.Tables e1).bind fun e2=>
    (wK e2 name).bind fun r=>
    (if(decide ((0:Int)<=r))then((if(!(table==([])))then((qw e).bind fun r1=>
    some (table==r1))else some true).bind fun t1=>
    some t1)else some false).bind fun t=>
    if t then
    (jf (hU b table name tl) i first e2 (IntKind.i64.wrap (first+r)) (IntKind.i64.wrap (many+(1:Int))))
    else
    (jf (hU b table name tl) i first e2 found many)

def km(b:ay)(table:cj)(name:cj):Option (Int×Int):=
 hU b table name b.sources 0 (0:Int) (0:Int) (0:Int)

def sa(nx1:aA->Option aA)(out1:aA)(n1:ap):Option aA:=
 (lr out1.Nodes ([n1])).bind fun l5=>
 nx1 ({out1 with Nodes:=l5}:aA)

def vJ(out:aA)(nx1:aA->Option aA)(out1:aA)(n:ap):Option aA:=
 if(decide ((0:Int)<=n.R))then
 (sa nx1 out1 (ap.mk n.Tag n.L (IntKind.i64.wrap (n.R+(out.Nodes.length:Int))) n.Col n.Value))
 else
 (sa nx1 out1 n)

def gv(nx:Nat->ap->aA->Option aA)(i:Nat)(root1:ap)(out:aA):List ap->aA->Option aA
 |[],out1=>
  if((i:Int)==(0:Int))then
  (nx (i+1) (ap.mk root1.Tag (IntKind.i64.wrap ((out1.Nodes.length:Int)-(1:Int))) root1.R root1.Col root1.Value) out1)
  else
  (nx (i+1) (ap.mk root1.Tag root1.L (IntKind.i64.wrap ((out1.Nodes.length:Int)-(1:Int))) root1.Col root1.Value) out1)
 |e1::tl1,out1=>
  if(decide ((0:Int)<=e1.L))then
  (vJ out (gv nx i root1 out tl1) out1 (ap.mk e1.Tag (IntKind.i64.wrap (e1.L+(out.Nodes.length:Int))) e1.R e1.Col e1.Value))
  else
  (vJ out (gv nx i root1 out tl1) out1 e1)

def lN:List aA->Nat->ap->aA->Option aA
 |[],i,root1,out=>
  (lr out.Nodes ([root1])).bind fun l2=>
  some ({out with Nodes:=l2}:aA)
 |e::tl,i,root1,out=>
  gv (lN tl) i root1 out e.Nodes out

def gU(root:ap)(l:(List aA)):Option aA:=
 lN l 0 (ap.mk root.Tag (-1:Int) (-1:Int) root.Col root.Value) ({(⟨[]⟩:aA)with Nodes:=([]:List ap)}:aA)

def yS(tag:Int):Option Int:=
  if((tag==(3:Int))||((decide ((8:Int)<=tag))&&(decide (tag<=(11:Int)))))then
  (some (-1:Int))
  else
  ((vd tag).bind fun r=>
  some r)

def jP(n:ap):Option Bool:=
  if(n.Tag==(1:Int))then
  ((vf n.Value).bind fun r=>
  some (r&&(n.Col==(0:Int))))
  else
  (if(n.Tag==(2:Int))then
  (some (((decide (n.Value=(⟨(0:Int),(0:Int),(0:Int),[]⟩:cr)))&&(decide ((0:Int)<=n.Col)))&&(decide (n.Col<(16:Int)))))
  else
  (some ((decide (n.Value=(⟨(0:Int),(0:Int),(0:Int),[]⟩:cr)))&&(n.Col==(0:Int)))))

def jO:Nat->aA->Int->Option Int
  |0,_,_=>none
  |fu+1,e,place=>
    if((decide (place<(0:Int)))||(decide ((e.Nodes.length:Int)<=place)))then
    (some (0:Int))
    else
    ((ep e.Nodes place).bind fun e1=>
    (yS e1.Tag).bind fun r=>
    (if(!(decide (r<(0:Int))))then((jP e1).bind fun r1=>
    some (!r1))else some true).bind fun t=>
    if t then
    (some (0:Int))
    else
    (if(r==(0:Int))then
    (if((e1.L !=(-1:Int))||(e1.R !=(-1:Int)))then
    (some (0:Int))
    else
    (some (1:Int)))
    else
    (((jO fu) e (IntKind.i64.wrap (place-(1:Int)))).bind fun r2=>
    if(r2==(0:Int))then
    (some (0:Int))
    else
    (if(r==(1:Int))then
    (if((e1.L !=(IntKind.i64.wrap (place-(1:Int))))||(e1.R !=(-1:Int)))then
    (some (0:Int))
    else
    (some (IntKind.i64.wrap (r2+(1:Int)))))
    else
    (((jO fu) e (IntKind.i64.wrap ((IntKind.i64.wrap (place-(1:Int)))-r2))).bind fun r3=>
    if(((r3==(0:Int))||(e1.R !=(IntKind.i64.wrap (place-(1:Int)))))||(e1.L !=(IntKind.i64.wrap ((IntKind.i64.wrap (place-(1:Int)))-r2))))then
    (some (0:Int))
    else
    (some (IntKind.i64.wrap ((IntKind.i64.wrap (r3+r2))+(1:Int)))))))))

def GT(e:aA)(place:Int):Option Int:=
 jO iB e place

def yR(e:aA):Option Bool:=
  (if((decide ((1:Int)<=(e.Nodes.length:Int)))&&(decide ((e.Nodes.length:Int)<=(1000:Int))))then((GT e (IntKind.i64.wrap ((e.Nodes.length:Int)-(1:Int)))).bind fun r=>
  some (r==(e.Nodes.length:Int)))else some false).bind fun t=>
  some t

def rA(k:Int)(want:Int):Option Bool:=
 some ((k==want)||(k==(0:Int)))

def uC(tag:Int)(l:Int)(r:Int):Option (Int×Bool):=
  if((tag==(4:Int))||((decide ((12:Int)<=tag))&&(decide (tag<=(15:Int)))))then
  ((rA l (2:Int)).bind fun r1=>
  (if r1 then((rA r (2:Int)).bind fun r2=>
  some r2)else some false).bind fun t=>
  some ((2:Int),t))
  else
  (if((tag==(5:Int))||(decide ((22:Int)<=tag)))then
  ((rA l (1:Int)).bind fun r3=>
  (if r3 then((rA r (1:Int)).bind fun r4=>
  some r4)else some false).bind fun t1=>
  some ((1:Int),t1))
  else
  (if((tag==(6:Int))||(tag==(7:Int)))then
  (some ((1:Int),true))
  else
  (some ((1:Int),(((l==r)||(l==(0:Int)))||(r==(0:Int)))))))

def sd(nx2:(List Int)->Option (Int×Int))(e3:ap)(own:List Int)(e6:Int)(r1:Int):Option (Int×Int):=
  (uC e3.Tag e6 r1).bind fun r2=>
  if(!r2.2)then
  (some ((0:Int),(201:Int)))
  else
  ((lr own ([r2.1])).bind fun own3=>
  nx2 own3)

def ei(kinds:(List Int)):List ap->(List Int)->Option (Int×Int)
  |[],own=>
    (ep own (IntKind.i64.wrap ((own.length:Int)-(1:Int)))).bind fun e4=>
    some (e4,(0:Int))
  |e3::tl2,own=>
    if(e3.Tag==(1:Int))then
    ((lr own ([e3.Value.Kind])).bind fun own1=>
    (ei kinds tl2) own1)
    else
    (if(e3.Tag==(2:Int))then
    ((ep kinds e3.Col).bind fun e5=>
    (lr own ([e5])).bind fun own2=>
    (ei kinds tl2) own2)
    else
    ((ep own e3.L).bind fun e6=>
    if(decide ((0:Int)<=e3.R))then
    ((ep own e3.R).bind fun e7=>
    sd (ei kinds tl2) e3 own e6 e7)
    else
    (sd (ei kinds tl2) e3 own e6 (0:Int))))

def pm(e:aA)(kinds:(List Int)):List ap->Option (Int×Int)
 |[]=>
  ei kinds e.Nodes ([]:List Int)
 |e2::tl1=>
  if((e2.Tag==(2:Int))&&(decide ((kinds.length:Int)<=e2.Col)))then
  (some ((0:Int),(2:Int)))
  else
  ((pm e kinds tl1))

def sb(e:aA)(kinds:(List Int)):List Int->Option (Int×Int)
 |[]=>
  pm e kinds e.Nodes
 |e1::tl=>
  if((decide (e1<(0:Int)))||(decide ((3:Int)<e1)))then
  (some ((0:Int),(2:Int)))
  else
  ((sb e kinds tl))

def rC(e:aA)(kinds:(List Int)):Option (Int×Int):=
 (yR e).bind fun r=>
 if(!r)then
 (some ((0:Int),(200:Int)))
 else
 (sb e kinds kinds)

def rX(a1:gj)(kinds:(List Int)):Option (Int×Bool):=
  if(a1.Tag==(1:Int))then
  (some ((2:Int),true))
  else
  ((rC a1.Arg kinds).bind fun r=>
  if((r.2 !=(0:Int))||(((a1.Tag==(3:Int))&&(r.1 !=(2:Int)))&&(r.1 !=(0:Int))))then
  (some ((0:Int),false))
  else
  (if((a1.Tag==(2:Int))||(a1.Tag==(3:Int)))then
  (some ((2:Int),true))
  else
  (some (r.1,true))))

def ko(r:(List Int)):List gj->(List Int)->Option (List Int)
 |[],out1=>
  some out1
 |e1::tl1,out1=>
  (rX e1 r).bind fun r1=>
  (lr out1 ([r1.1])).bind fun out2=>
  (ko r tl1) out2

def kp(s:aF)(r:(List Int)):List Int->(List Int)->Option (List Int)
 |[],out=>
  ko r s.Aggs out
 |e::tl,out=>
  (ep r e).bind fun e2=>
  (lr out ([e2])).bind fun out3=>
  (kp s r tl) out3

def kM(c:aw)(s:aF):Option (List Int):=
 (kG c s.Tables).bind fun r=>
 kp s r s.Keys ([]:List Int)

def lk(tag:Int):Option Bool:=
 some ((tag==(3:Int))||((decide ((8:Int)<=tag))&&(decide (tag<=(11:Int)))))

def rZ(b:aA):List ap->Nat->Option Bool
 |[],i=>
  some true
 |e::tl,i=>
  (ep b.Nodes (i:Int)).bind fun e1=>
  if(!decide (e=e1))then
  (some false)
  else
  ((rZ b tl) (i+1))

def wL(a1:aA)(b:aA):Option Bool:=
 if((a1.Nodes.length:Int) !=(b.Nodes.length:Int))then
 (some false)
 else
 (rZ b a1.Nodes 0)

def md(at1:Int)(ob:ay):Option (aA×Int×ay):=
  if(decide ((12:Int)<(ob.out.Aggs.length:Int)))then
  (some ((⟨[]⟩:aA),(228:Int),ob))
  else
  ((gU (⟨(2:Int),(0:Int),(0:Int),(IntKind.i64.wrap ((ob.out.Keys.length:Int)+at1)),(⟨(0:Int),(0:Int),(0:Int),[]⟩:cr)⟩:ap) ([])).bind fun r2=>
  some (r2,(0:Int),ob))

def gy(b:ay)(a1:gj):List gj->Nat->Int->Option (aA×Int×ay)
  |[],i,at1=>
    if(at1==(b.out.Aggs.length:Int))then
    ((lr b.out.Aggs ([a1])).bind fun l6=>
    md at1 ({b with out:=({b.out with Aggs:=l6}:aF)}:ay))
    else
    (md at1 b)
  |e::tl,i,at1=>
    (if(e.Tag==a1.Tag)then((wL e.Arg a1.Arg).bind fun r3=>
    some r3)else some false).bind fun t=>
    if t then
    ((gy b a1 tl) (i+1) (i:Int))
    else
    ((gy b a1 tl) (i+1) at1)

def oH(b:ay)(a1:gj):Option (aA×Int×ay):=
 (kG b.c b.out.Tables).bind fun r=>
 (rX a1 r).bind fun r1=>
 if(!r1.2)then
 (some ((⟨[]⟩:aA),(201:Int),b))
 else
 (gy b a1 b.out.Aggs 0 (b.out.Aggs.length:Int))

def wJ(tag:Int):Option Int:=
  if(tag==(3:Int))then
  (some (1:Int))
  else
  (if(tag==(8:Int))then
  (some (2:Int))
  else
  (if(tag==(9:Int))then
  (some (3:Int))
  else
  (if(tag==(10:Int))then
  (some (4:Int))
  else
  (some (5:Int)))))

def iP(b:ay)(r1:Int×Int)(at1:Int)(x:aA):Option (aA×Int×ay):=
 (gU (⟨(2:Int),(0:Int),(0:Int),at1,(⟨(0:Int),(0:Int),(0:Int),[]⟩:cr)⟩:ap) ([])).bind fun r2=>
 some (r2,r1.2,b)

def eb(b:ay)(r1:Int×Int):Nat->Int->Int->Option (aA×Int×ay)
  |0,_,_=>none
  |n+1,own,i1=>
    if(decide ((0:Int)<=i1))then
    ((ep b.out.Keys i1).bind fun e1=>
    if(e1==r1.1)then
    ((eb b r1 n) i1 (IntKind.i64.wrap (i1-(1:Int))))
    else
    ((eb b r1 n) own (IntKind.i64.wrap (i1-(1:Int)))))
    else
    (if(decide (own<(0:Int)))then
    (some ((⟨[]⟩:aA),(225:Int),b))
    else
    (iP b r1 own (⟨[]⟩:aA)))

def iO(e:cx)(arg:aA)(ob:ay)(e3:Int):Option (aA×Int×ay):=
  if(e3 !=(0:Int))then
  (some ((⟨[]⟩:aA),e3,ob))
  else
  ((wJ e.Tag).bind fun r4=>
  (oH ob (⟨r4,arg⟩:gj)).bind fun r5=>
  some (r5.1,r5.2.1,r5.2.2))

def jX(group:Bool)(e:cx)(e2:Int)(arg:aA)(ob:ay):Option (aA×Int×ay):=
 if((e2==(0:Int))&&(!group))then
 (iO e arg ob (224:Int))
 else
 (iO e arg ob e2)

def nW(out:aA)(ob1:ay)(kinds:(List Int)):Option (aA×Int×ay):=
 (rC out kinds).bind fun r10=>
 some (out,r10.2,ob1)

def jW(group:Bool)(x1:aA)(out:aA)(ob1:ay):Option (aA×Int×ay):=
  (kG ob1.c ob1.out.Tables).bind fun r9=>
  if group then
  ((kM ob1.c ob1.out).bind fun r11=>
  nW out ob1 r11)
  else
  (nW out ob1 r9)

def cy:Nat->ay->bT->Int->Bool->Option (aA×Int×ay)
  |0,_,_,_,_=>none
  |fu+1,b,t,place,group=>
    (ep t.Nodes place).bind fun e=>
    if(e.Tag==(1:Int))then
    ((gU (⟨(1:Int),(0:Int),(0:Int),(0:Int),e.Value⟩:ap) ([])).bind fun r=>
    some (r,(0:Int),b))
    else
    (if(e.Tag==(2:Int))then
    ((km b e.Table e.Name).bind fun r1=>
    if((r1.2==(0:Int))&&group)then
    (eb b r1 iB (-1:Int) (IntKind.i64.wrap ((b.out.Keys.length:Int)-(1:Int))))
    else
    (iP b r1 r1.1 (⟨[]⟩:aA)))
    else
    ((lk e.Tag).bind fun r3=>
    if r3 then
    (if(decide ((0:Int)<=e.L))then
    (((cy fu) b t e.L false).bind fun r6=>
    jX group e r6.2.1 r6.1 r6.2.2)
    else
    (jX group e (0:Int) (⟨[]⟩:aA) b))
    else
    (((cy fu) b t e.L group).bind fun r7=>
    if(r7.2.1 !=(0:Int))then
    (some ((⟨[]⟩:aA),r7.2.1,r7.2.2))
    else
    ((gU (⟨e.Tag,(0:Int),(0:Int),(0:Int),(⟨(0:Int),(0:Int),(0:Int),[]⟩:cr)⟩:ap) ([r7.1])).bind fun r8=>
    if(decide ((0:Int)<=e.R))then
    (((cy fu) r7.2.2 t e.R group).bind fun r12=>
    if(r12.2.1 !=(0:Int))then
    (some ((⟨[]⟩:aA),r12.2.1,r12.2.2))
    else
    ((gU (⟨e.Tag,(0:Int),(0:Int),(0:Int),(⟨(0:Int),(0:Int),(0:Int),[]⟩:cr)⟩:ap) ([r7.1,r12.1])).bind fun r13=>
    jW group (⟨[]⟩:aA) r13 r12.2.2))
    else
    (jW group (⟨[]⟩:aA) r8 r7.2.2)))))

def vc(b:ay)(t:bT)(place:Int)(group:Bool):Option (aA×Int×ay):=
 cy iB b t place group

def kS(b:ay)(t:bT)(group:Bool):Option (aA×Int×ay):=
 (vc b t (IntKind.i64.wrap ((t.Nodes.length:Int)-(1:Int))) group).bind fun r=>
 if(r.2.1 !=(0:Int))then
 (some ((⟨[]⟩:aA),r.2.1,r.2.2))
 else
 (some (r.1,(0:Int),r.2.2))

def io(r:aA×Int×ay)(kinds:(List Int)):Option (aA×Int×ay):=
 (rC r.1 kinds).bind fun r2=>
 if((r2.1 !=(1:Int))&&(r2.1 !=(0:Int)))then
 (some ((⟨[]⟩:aA),(226:Int),r.2.2))
 else
 (some (r.1,(0:Int),r.2.2))

def jH(b:ay)(t:bT)(group:Bool):Option (aA×Int×ay):=
  (kS b t group).bind fun r=>
  if(r.2.1 !=(0:Int))then
  (some (r.1,r.2.1,r.2.2))
  else
  ((kG r.2.2.c r.2.2.out.Tables).bind fun r1=>
  if group then
  ((kM r.2.2.c r.2.2.out).bind fun r3=>
  io r r3)
  else
  (io r r1))

def jY:List gk->ay->Option (Int×Int×ay)
  |[],ob2=>
    some ((0:Int),(0:Int),ob2)
  |e1::tl1,ob2=>
    (km ob2 e1.Table e1.Name).bind fun r1=>
    if(r1.2 !=(0:Int))then
    (some ((3:Int),r1.2,ob2))
    else
    ((lr ob2.out.Keys ([r1.1])).bind fun l18=>
    (jY tl1) ({ob2 with out:=({ob2.out with Keys:=l18}:aF)}:ay))

def sA(s:ae)(ob1:ay):Option (Int×Int×ay):=
 jY s.Group ob1

def dJ(s:ae):List g9->ay->Option (Int×Int×ay)
  |[],ob=>
    if(decide ((0:Int)<(s.Where.Nodes.length:Int)))then
    ((jH ob s.Where false).bind fun r2=>
    if(r2.2.1 !=(0:Int))then
    (some ((2:Int),r2.2.1,r2.2.2))
    else
    (sA s ({r2.2.2 with out:=({r2.2.2.out with Where:=r2.1}:aF)}:ay)))
    else
    (sA s ob)
  |e::tl,ob=>
    (kl ob e.Source).bind fun r3=>
    if(r3.1 !=(0:Int))then
    (some ((1:Int),r3.1,r3.2))
    else
    ((jH r3.2 e.On false).bind fun r4=>
    if(r4.2.1 !=(0:Int))then
    (some ((1:Int),r4.2.1,r4.2.2))
    else
    ((lr r4.2.2.out.Joins ([(⟨e.Left,r4.1⟩:eS)])).bind fun l20=>
    (dJ s tl) ({r4.2.2 with out:=({r4.2.2.out with Joins:=l20}:aF)}:ay)))

def qx(b:ay)(s:ae):Option (Int×Int×ay):=
 (kl b s.From).bind fun r=>
 if(r.1 !=(0:Int))then
 (some ((0:Int),r.1,r.2))
 else
 (dJ s s.Joins r.2)

def tE:List cx->Option Bool
 |[]=>
  some false
 |e::tl=>
  (lk e.Tag).bind fun r=>
  if r then
  (some true)
  else
  ((tE tl))

def Jb(t:bT):Option Bool:=
 tE t.Nodes

def mv:List ev->Bool->Option Bool
  |[],out=>
    some out
  |e::tl,out=>
    (if(!out)then((Jb e.Tree).bind fun r=>
    some r)else some true).bind fun t=>
    (mv tl) t

def vI(s:ae):Option Bool:=
 mv s.Items ((decide ((0:Int)<(s.Group.length:Int)))||(decide ((0:Int)<(s.Having.Nodes.length:Int))))

def rh(ob2:ay):Option (Int×Int×ay):=
 some ((0:Int),(0:Int),ob2)

def dN(s:ae):List ev->ay->Option (Int×Int×ay)
  |[],ob1=>
    if(decide ((0:Int)<(s.Having.Nodes.length:Int)))then
    ((jH ob1 s.Having true).bind fun r1=>
    if(r1.2.1 !=(0:Int))then
    (some ((5:Int),r1.2.1,r1.2.2))
    else
    (rh ({r1.2.2 with out:=({r1.2.2.out with Having:=r1.1}:aF)}:ay)))
    else
    (rh ob1)
  |e::tl,ob1=>
    (kS ob1 e.Tree ob1.out.Grouped).bind fun r2=>
    if(r2.2.1 !=(0:Int))then
    (some ((4:Int),r2.2.1,r2.2.2))
    else
    ((lr r2.2.2.out.Items ([r2.1])).bind fun l18=>
    (dN s tl) ({r2.2.2 with out:=({r2.2.2.out with Items:=l18}:aF)}:ay))

def ip(s:ae)(ob:ay):Option (Int×Int×ay):=
 dN s s.Items ob

def ld(s:ae):List Int->Nat->ay->Option (Int×Int×ay)
 |[],i5,ob3=>
  ip s ob3
 |e1::tl1,i5,ob3=>
  (gU (⟨(2:Int),(0:Int),(0:Int),(i5:Int),(⟨(0:Int),(0:Int),(0:Int),[]⟩:cr)⟩:ap) ([])).bind fun r4=>
  (lr ob3.out.Items ([r4])).bind fun l25=>
  (ld s tl1) (i5+1) ({ob3 with out:=({ob3.out with Items:=l25}:aF)}:ay)

def kR(b:ay)(s:ae):Option (Int×Int×ay):=
  (vI s).bind fun r=>
  if s.Star then
  (if((({({b with out:=({b.out with Grouped:=r}:aF)}:ay)with out:=({({b with out:=({b.out with Grouped:=r}:aF)}:ay).out with Distinct:=s.Distinct}:aF)}:ay).out).Grouped)then
  (some ((4:Int),(227:Int),({({b with out:=({b.out with Grouped:=r}:aF)}:ay)with out:=({({b with out:=({b.out with Grouped:=r}:aF)}:ay).out with Distinct:=s.Distinct}:aF)}:ay)))
  else
  ((kG (({({b with out:=({b.out with Grouped:=r}:aF)}:ay)with out:=({({b with out:=({b.out with Grouped:=r}:aF)}:ay).out with Distinct:=s.Distinct}:aF)}:ay).c) b.out.Tables).bind fun r3=>
  ld s r3 0 ({({b with out:=({b.out with Grouped:=r}:aF)}:ay)with out:=({({b with out:=({b.out with Grouped:=r}:aF)}:ay).out with Distinct:=s.Distinct}:aF)}:ay)))
  else
  (ip s ({({b with out:=({b.out with Grouped:=r}:aF)}:ay)with out:=({({b with out:=({b.out with Grouped:=r}:aF)}:ay).out with Distinct:=s.Distinct}:aF)}:ay))

def kT(kinds:(List Int)):List aA->(List Int)->Option (List Int)
 |[],out=>
  some out
 |e::tl,out=>
  (rC e kinds).bind fun r1=>
  (lr out ([r1.1])).bind fun out1=>
  (kT kinds tl) out1

def pI(s:aF)(kinds:(List Int)):Option (List Int):=
 kT kinds s.Items ([]:List Int)

def s9(c:aw)(s:aF):Option (List Int):=
  (kG c s.Tables).bind fun r=>
  if s.Grouped then
  ((kM c s).bind fun r2=>
  pI s r2)
  else
  (pI s r)

def uA(nx:(List cj)->Option (List cj))(out1:List cj)(own:cj):Option (List cj):=
 (lr out1 ([own])).bind fun out2=>
 nx out2

def mu:List ev->(List cj)->Option (List cj)
 |[],out1=>
  some out1
 |e::tl,out1=>
  (ep e.Tree.Nodes (IntKind.i64.wrap ((e.Tree.Nodes.length:Int)-(1:Int)))).bind fun e1=>
  if((e.As==([]))&&(e1.Tag==(2:Int)))then
  (uA (mu tl) out1 e1.Name)
  else
  (uA (mu tl) out1 e.As)

def qv(s:ae)(out:List cj):Option (List cj):=
 mu s.Items out

def nU(nx1:(List cj)->Option (List cj)):List bJ->(List cj)->Option (List cj)
 |[],out4=>
  nx1 out4
 |e4::tl2,out4=>
  (lr out4 ([e4.Name])).bind fun out5=>
  (nU nx1 tl2) out5

def nV(c:aw)(s:ae):List Int->(List cj)->Option (List cj)
 |[],out3=>
  qv s out3
 |e2::tl1,out3=>
  (ep c.Tables e2).bind fun e3=>
  nU (nV c s tl1) e3.Columns out3

def yP(c:aw)(s:ae)(tables:(List Int)):Option (List cj):=
 if s.Star then
 (nV c s tables ([]:List cj))
 else
 (qv s ([]:List cj))

def s7(b:(List Int))(nx:Nat->(List Int)->Option ((List Int)×Bool))(i:Nat)(out:List Int)(k:Int):Option ((List Int)×Bool):=
  (ep b (i:Int)).bind fun e1=>
  if((e1 !=(0:Int))&&(e1 !=k))then
  (some ([],false))
  else
  ((lr out ([k])).bind fun out1=>
  nx (i+1) out1)

def lj(b:(List Int)):List Int->Nat->(List Int)->Option ((List Int)×Bool)
  |[],i,out=>
    some (out,true)
  |e::tl,i,out=>
    if(e==(0:Int))then
    ((ep b (i:Int)).bind fun e2=>
    s7 b (lj b tl) i out e2)
    else
    (s7 b (lj b tl) i out e)

def tB(a1:(List Int))(b:(List Int)):Option ((List Int)×Bool):=
 if((a1.length:Int) !=(b.length:Int))then
 (some ([],false))
 else
 (lj b a1 0 ([]:List Int))

def fM(k:rQ):List cj->Nat->Int->Int->Option (Int×Int)
  |[],i,found,many=>
    if(many==(0:Int))then
    (some ((0:Int),(222:Int)))
    else
    (if(many==(1:Int))then
    (some (found,(0:Int)))
    else
    (some ((0:Int),(223:Int))))
  |e::tl,i,found,many=>
    if(e==k.Name)then
    ((fM k tl) (i+1) (i:Int) (IntKind.i64.wrap (many+(1:Int))))
    else
    ((fM k tl) (i+1) found many)

def D4(k:rQ)(names:(List cj)):Option (Int×Int):=
  if(k.Name==([]))then
  (if((decide (k.Number<(1:Int)))||(decide ((names.length:Int)<k.Number)))then
  (some ((0:Int),(222:Int)))
  else
  (some ((IntKind.i64.wrap (k.Number-(1:Int))),(0:Int))))
  else
  (fM k names 0 (0:Int) (0:Int))

def rU:List rQ->bf->bf->Option (bf×Int×Int)
  |[],x1,out1=>
    some (out1,(0:Int),(0:Int))
  |e1::tl1,x1,out1=>
    (D4 e1 out1.Names).bind fun r2=>
    if(r2.2 !=(0:Int))then
    (some ((⟨[],[],[],[],(0:Int)⟩:bf),(90:Int),r2.2))
    else
    ((lr out1.Order ([(⟨r2.1,e1.Desc⟩:xD)])).bind fun l4=>
    (rU tl1) x1 ({out1 with Order:=l4}:bf))

def rW(nx:Nat->bf->bf->Option (bf×Int×Int))(i:Nat)(out:bf)(ob:ay)(x2:bf)(out2:bf):Option (bf×Int×Int):=
 (lr out2.Selects ([ob.out])).bind fun l14=>
 nx (i+1) x2 ({out2 with Selects:=l14}:bf)

def nH(c:aw)(nx:Nat->bf->bf->Option (bf×Int×Int))(i:Nat)(e:ae)(x:bf)(out:bf)(at1:Int)(e2:Int)(ob:ay):Option (bf×Int×Int):=
  if(e2 !=(0:Int))then
  (some ((⟨[],[],[],[],(0:Int)⟩:bf),(IntKind.i64.wrap ((IntKind.i64.wrap ((10:Int)*(i:Int)))+at1)),e2))
  else
  ((s9 c ob.out).bind fun r4=>
  if((i:Int)==(0:Int))then
  ((yP c e ob.out.Tables).bind fun r5=>
  rW nx i out ob x ({({({({out with Names:=r5}:bf)with Kinds:=r4}:bf)with Selects:=out.Selects}:bf)with Order:=out.Order}:bf))
  else
  ((tB out.Kinds r4).bind fun r6=>
  if(!r6.2)then
  (some ((⟨[],[],[],[],(0:Int)⟩:bf),(IntKind.i64.wrap ((IntKind.i64.wrap ((10:Int)*(i:Int)))+(6:Int))),(229:Int)))
  else
  (rW nx i out ob x ({({({out with Kinds:=r6.1}:bf)with Selects:=out.Selects}:bf)with Order:=out.Order}:bf))))

def kH(c:aw)(q:be):List ae->Nat->bf->bf->Option (bf×Int×Int)
  |[],i,x,out=>
    rU q.Keys x out
  |e::tl,i,x,out=>
    (qx (⟨c,[],(⟨[],[],(⟨[]⟩:aA),(⟨[]⟩:aA),false,false,[],[],[]⟩:aF)⟩:ay) e).bind fun r3=>
    if(r3.2.1==(0:Int))then
    ((kR r3.2.2 e).bind fun r7=>
    nH c (kH c q tl) i e x out r7.1 r7.2.1 r7.2.2)
    else
    (nH c (kH c q tl) i e x out r3.1 r3.2.1 r3.2.2)

def GQ(c:aw)(q:be):Option (bf×Int×Int):=
  (yQ c).bind fun r=>
  if(!r)then
  (some ((⟨[],[],[],[],(0:Int)⟩:bf),(0:Int),(210:Int)))
  else
  ((yT q).bind fun r1=>
  if(!r1)then
  (some ((⟨[],[],[],[],(0:Int)⟩:bf),(0:Int),(180:Int)))
  else
  (kH c q q.Selects 0 (⟨[],[],[],[],(0:Int)⟩:bf) ({({(⟨[],[],[],[],q.Limit⟩:bf)with Selects:=([]:List aF)}:bf)with Order:=([]:List xD)}:bf)))

end Go.Proofs.YtigldkegamffhaaGreatDoor

