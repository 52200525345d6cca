/- cW of this claim: R16. -/
import Derived.Test.YtbmmihfagmchaaaGreatRcF
set_option linter.all false
namespace Go.Proofs.YtbmmihfagmchaaaGreat
open Go

def j9(x1:Bool):Option Int:=
 if x1 then
 (some (1:Int))
 else
 (some (-1:Int))

def qN(op:Int)(x:Bool):Option Int:=
  if x then
  (some (2:Int))
  else
  (if(op==(3:Int))then
  (j9 (op==(3:Int)))
  else
  (if(op==(4:Int))then
  (j9 (op==(4:Int)))
  else
  (if(op==(5:Int))then
  (j9 (op==(5:Int)))
  else
  (if(op==(6:Int))then
  (j9 (op==(6:Int)))
  else
  (j9 (op==(8:Int)))))))

def uu(op:Int):Option Int:=
  if(op==(1:Int))then
  (some (0:Int))
  else
  (if(op==(2:Int))then
  (qN op (op==(2:Int)))
  else
  (qN op (op==(7:Int))))

def bW:Nat->aw->Int->Option Int
  |0,_,_=>none
  |fu+1,l,at1=>
    if((decide (at1<(0:Int)))||(decide ((l.Nodes.length:Int)<=at1)))then
    (some (0:Int))
    else
    ((cU l.Nodes at1).bind fun e=>
    (uu e.Op).bind fun r=>
    if(r==(0:Int))then
    (if((e.A==(-1:Int))&&(e.B==(-1:Int)))then
    (some (1:Int))
    else
    (some (0:Int)))
    else
    (if(r==(1:Int))then
    (if((e.A==(IntKind.i64.wrap (at1-(1:Int))))&&(e.B==(-1:Int)))then
    (((bW fu) l e.A).bind fun r1=>
    if(decide ((0:Int)<r1))then
    (some (IntKind.i64.wrap (r1+(1:Int))))
    else
    (some (0:Int)))
    else
    (some (0:Int)))
    else
    (if(r==(2:Int))then
    (if(e.B==(IntKind.i64.wrap (at1-(1:Int))))then
    (((bW fu) l e.B).bind fun r2=>
    if((decide ((0:Int)<r2))&&(e.A==(IntKind.i64.wrap (e.B-r2))))then
    (((bW fu) l e.A).bind fun r3=>
    if(decide ((0:Int)<r3))then
    (some (IntKind.i64.wrap ((IntKind.i64.wrap (r3+r2))+(1:Int))))
    else
    (some (0:Int)))
    else
    (some (0:Int)))
    else
    (some (0:Int)))
    else
    (some (0:Int)))))

def gI(l:aw)(at1:Int):Option Int:=
 bW gi l at1

def sG(n:aa):Option Bool:=
  if((n.Op !=(1:Int))&&((n.Table !=(0:Int))||(decide ((0:Int)<(n.Kinds.length:Int)))))then
  (some false)
  else
  (if(((n.Op !=(2:Int))&&n.Left)||(((n.Op !=(2:Int))&&(n.Op !=(3:Int)))&&(decide ((0:Int)<(n.Cond.Nodes.length:Int)))))then
  (some false)
  else
  (if(((n.Op !=(4:Int))&&((decide ((0:Int)<(n.Keys.length:Int)))||(decide ((0:Int)<(n.Aggs.length:Int)))))||((n.Op !=(5:Int))&&(decide ((0:Int)<(n.Items.length:Int)))))then
  (some false)
  else
  (some ((n.Op==(8:Int))||(((n.Order.length:Int)==(0:Int))&&(n.Limit==(0:Int)))))))

def oR(k:Int)(want:Int):Option Bool:=
 some ((k==want)||(k==(0:Int)))

def qO(tag:Int)(l:Int)(r:Int):Option (Int×Bool):=
  if((tag==(4:Int))||((decide ((12:Int)<=tag))&&(decide (tag<=(15:Int)))))then
  ((oR l (2:Int)).bind fun r1=>
  (if r1 then((oR r (2:Int)).bind fun r2=>
  some r2)else some false).bind fun t=>
  some ((2:Int),t))
  else
  (if((tag==(5:Int))||(decide ((22:Int)<=tag)))then
  ((oR l (1:Int)).bind fun r3=>
  (if r3 then((oR r (1:Int)).bind fun r4=>
  some r4)else some false).bind fun t1=>
  some ((1:Int),t1))
  else
  (if((tag==(6:Int))||(tag==(7:Int)))then
  (some ((1:Int),true))
  else
  (some ((1:Int),(((l==r)||(l==(0:Int)))||(r==(0:Int)))))))

def pi(nx2:(List Int)->Option (Int×Int))(e3:aj)(own:List Int)(e6:Int)(r1:Int):Option (Int×Int):=
  (qO e3.Tag e6 r1).bind fun r2=>
  if(!r2.2)then
  (some ((0:Int),(201:Int)))
  else
  ((jT own ([r2.1])).bind fun own3=>
  nx2 own3)

def de(kinds:(List Int)):List aj->(List Int)->Option (Int×Int)
  |[],own=>
    (cU own (IntKind.i64.wrap ((own.length:Int)-(1:Int)))).bind fun e4=>
    some (e4,(0:Int))
  |e3::tl2,own=>
    if(e3.Tag==(1:Int))then
    ((jT own ([e3.Value.Kind])).bind fun own1=>
    (de kinds tl2) own1)
    else
    (if(e3.Tag==(2:Int))then
    ((cU kinds e3.Col).bind fun e5=>
    (jT own ([e5])).bind fun own2=>
    (de kinds tl2) own2)
    else
    ((cU own e3.L).bind fun e6=>
    if(decide ((0:Int)<=e3.R))then
    ((cU own e3.R).bind fun e7=>
    pi (de kinds tl2) e3 own e6 e7)
    else
    (pi (de kinds tl2) e3 own e6 (0:Int))))

def mU(e:ai)(kinds:(List Int)):List aj->Option (Int×Int)
 |[]=>
  de kinds e.Nodes ([]:List Int)
 |e2::tl1=>
  if((e2.Tag==(2:Int))&&(decide ((kinds.length:Int)<=e2.Col)))then
  (some ((0:Int),(2:Int)))
  else
  ((mU e kinds tl1))

def ph(e:ai)(kinds:(List Int)):List Int->Option (Int×Int)
 |[]=>
  mU e kinds e.Nodes
 |e1::tl=>
  if((decide (e1<(0:Int)))||(decide ((3:Int)<e1)))then
  (some ((0:Int),(2:Int)))
  else
  ((ph e kinds tl))

def qP(e:ai)(kinds:(List Int)):Option (Int×Int):=
 (uv e).bind fun r=>
 if(!r)then
 (some ((0:Int),(200:Int)))
 else
 (ph e kinds kinds)

def rn(e:ai)(kinds:(List Int)):Option Bool:=
 (qP e kinds).bind fun r=>
 some ((r.2==(0:Int))&&((r.1==(0:Int))||(r.1==(1:Int))))

def kZ(a1:gQ)(kinds:(List Int)):Option (Int×Bool):=
  if(a1.Tag==(1:Int))then
  (some ((2:Int),((a1.Arg.Nodes.length:Int)==(0:Int))))
  else
  ((qP a1.Arg kinds).bind fun r=>
  if(((decide (a1.Tag<(1:Int)))||(decide ((5:Int)<a1.Tag)))||(r.2 !=(0:Int)))then
  (some ((0:Int),false))
  else
  (if(((a1.Tag==(3:Int))&&(r.1 !=(2:Int)))&&(r.1 !=(0:Int)))then
  (some ((0:Int),false))
  else
  (if(decide ((4:Int)<=a1.Tag))then
  (some (r.1,true))
  else
  (some ((2:Int),true)))))

def dQ(n:aa):Nat->Bool->Int->Option ((List Int)×Bool)
  |0,_,_=>none
  |n1+1,ok,i=>
    if(decide (i<(n.Kinds.length:Int)))then
    ((if ok then((cU n.Kinds i).bind fun e=>
    some (decide ((1:Int)<=e)))else some false).bind fun t=>
    (if t then((cU n.Kinds i).bind fun e1=>
    some (decide (e1<=(3:Int))))else some false).bind fun t1=>
    (dQ n n1) t1 (IntKind.i64.wrap (i+(1:Int))))
    else
    (some (n.Kinds,((((ok&&(decide ((0:Int)<=n.Table)))&&(decide (n.Table<=(3:Int))))&&(decide ((1:Int)<=(n.Kinds.length:Int))))&&(decide ((n.Kinds.length:Int)<=(4:Int))))))

def eT(n:aa)(a1:(List Int)):Nat->(List Int)->Bool->Int->Option ((List Int)×Bool)
  |0,_,_,_=>none
  |n3+1,out3,ok1,i2=>
    if(decide (i2<(n.Aggs.length:Int)))then
    ((cU n.Aggs i2).bind fun e4=>
    (kZ e4 a1).bind fun r2=>
    (jT out3 ([r2.1])).bind fun out4=>
    (eT n a1 n3) out4 (ok1&&r2.2) (IntKind.i64.wrap (i2+(1:Int))))
    else
    (some (out3,(((ok1&&(decide ((n.Keys.length:Int)<=(3:Int))))&&(decide ((n.Aggs.length:Int)<=(12:Int))))&&(decide ((0:Int)<(out3.length:Int))))))

def eU(n:aa)(a1:(List Int)):Nat->(List Int)->Int->Option ((List Int)×Bool)
  |0,_,_=>none
  |n2+1,out1,i1=>
    if(decide (i1<(n.Keys.length:Int)))then
    ((cU n.Keys i1).bind fun e2=>
    if((decide (e2<(0:Int)))||(decide ((a1.length:Int)<=e2)))then
    (some ([],false))
    else
    ((cU a1 e2).bind fun e3=>
    (jT out1 ([e3])).bind fun out2=>
    (eU n a1 n2) out2 (IntKind.i64.wrap (i1+(1:Int)))))
    else
    (eT n a1 gi out1 true (0:Int))

def dB(n:aa)(a1:(List Int)):Nat->(List Int)->Bool->Int->Option ((List Int)×Bool)
  |0,_,_,_=>none
  |n4+1,out5,ok2,i3=>
    if(decide (i3<(n.Items.length:Int)))then
    ((cU n.Items i3).bind fun e5=>
    (qP e5 a1).bind fun r3=>
    (jT out5 ([r3.1])).bind fun out6=>
    (dB n a1 n4) out6 (ok2&&(r3.2==(0:Int))) (IntKind.i64.wrap (i3+(1:Int))))
    else
    (some (out5,((ok2&&(decide ((1:Int)<=(out5.length:Int))))&&(decide ((out5.length:Int)<=(16:Int))))))

def nX(b:(List Int))(nx4:Nat->(List Int)->Bool->Option ((List Int)×Bool))(i4:Nat)(out7:List Int)(ok3:Bool)(k:Int):Option ((List Int)×Bool):=
  (jT out7 ([k])).bind fun out8=>
  (if ok3 then((cU b (i4:Int)).bind fun e7=>
  (if(!(e7==k))then((cU b (i4:Int)).bind fun e8=>
  some (e8==(0:Int)))else some true).bind fun t3=>
  some t3)else some false).bind fun t2=>
  nx4 (i4+1) out8 t2

def jj(b:(List Int)):List Int->Nat->(List Int)->Bool->Option ((List Int)×Bool)
  |[],i4,out7,ok3=>
    some (out7,ok3)
  |e6::tl,i4,out7,ok3=>
    if(e6==(0:Int))then
    ((cU b (i4:Int)).bind fun e9=>
    nX b (jj b tl) i4 out7 ok3 e9)
    else
    (nX b (jj b tl) i4 out7 ok3 e6)

def dP(n:aa)(a1:(List Int)):Nat->Bool->Int->Option ((List Int)×Bool)
  |0,_,_=>none
  |n5+1,ok4,i5=>
    if(decide (i5<(n.Order.length:Int)))then
    ((if ok4 then((cU n.Order i5).bind fun e10=>
    some (decide ((0:Int)<=e10.Col)))else some false).bind fun t4=>
    (if t4 then((cU n.Order i5).bind fun e11=>
    some (decide (e11.Col<(a1.length:Int))))else some false).bind fun t5=>
    (dP n a1 n5) t5 (IntKind.i64.wrap (i5+(1:Int))))
    else
    (some (a1,(((ok4&&(decide ((n.Order.length:Int)<=(3:Int))))&&(decide ((-1:Int)<=n.Limit)))&&(decide (n.Limit<=(2147483647:Int))))))

def bk(n:aa)(a1:(List Int))(b:(List Int)):Option ((List Int)×Bool):=
  if(n.Op==(1:Int))then
  (dQ n gi true (0:Int))
  else
  (if(n.Op==(2:Int))then
  ((jT ([]:List Int) a1).bind fun l=>
  (jT l b).bind fun out=>
  (rn n.Cond out).bind fun r=>
  some (out,r))
  else
  (if(n.Op==(3:Int))then
  ((rn n.Cond a1).bind fun r1=>
  some (a1,r1))
  else
  (if(n.Op==(4:Int))then
  (eU n a1 gi ([]:List Int) (0:Int))
  else
  (if(n.Op==(5:Int))then
  (dB n a1 gi ([]:List Int) true (0:Int))
  else
  (if(n.Op==(6:Int))then
  (some (a1,true))
  else
  (if(n.Op==(7:Int))then
  (if((a1.length:Int) !=(b.length:Int))then
  (some ([],false))
  else
  (jj b a1 0 ([]:List Int) true))
  else
  (dP n a1 gi true (0:Int))))))))

def f9(l:aw)(at1:Int)(e1:aa)(a1:(List Int))(b1:(List Int)):Option ((List Int)×Bool):=
 (bk e1 a1 b1).bind fun r2=>
 if(((e1.Op==(8:Int))&&(at1 !=(IntKind.i64.wrap ((l.Nodes.length:Int)-(1:Int)))))||(decide ((16:Int)<(r2.1.length:Int))))then
 (some ([],false))
 else
 (some (r2.1,r2.2))

def ee(self__:aw->Int->Option ((List Int)×Bool))(l:aw)(at1:Int)(e1:aa)(a1:(List Int)):Option ((List Int)×Bool):=
  if(decide ((0:Int)<=e1.B))then
  ((self__ l e1.B).bind fun r3=>
  if(!r3.2)then
  (some ([],false))
  else
  (f9 l at1 e1 a1 r3.1))
  else
  (f9 l at1 e1 a1 ([]))

def cg:Nat->aw->Int->Option ((List Int)×Bool)
  |0,_,_=>none
  |fu+1,l,at1=>
    (gI l at1).bind fun r=>
    (if(!(r==(0:Int)))then((cU l.Nodes at1).bind fun e=>
    (sG e).bind fun r1=>
    some (!r1))else some true).bind fun t=>
    if t then
    (some ([],false))
    else
    ((cU l.Nodes at1).bind fun e1=>
    if(decide ((0:Int)<=e1.A))then
    (((cg fu) l e1.A).bind fun r4=>
    if(!r4.2)then
    (some ([],false))
    else
    (ee (cg fu) l at1 e1 r4.1))
    else
    (ee (cg fu) l at1 e1 ([])))

def pH(l:aw)(at1:Int):Option ((List Int)×Bool):=
 cg gi l at1

def eV(l:aw):List aa->Nat->Option Int
 |[],i=>
  (gI l (IntKind.i64.wrap ((l.Nodes.length:Int)-(1:Int)))).bind fun r=>
  if(r !=(l.Nodes.length:Int))then
  (some (IntKind.i64.wrap ((l.Nodes.length:Int)-(1:Int))))
  else
  (some (-1:Int))
 |e::tl,i=>
  (pH l (i:Int)).bind fun r1=>
  if(!r1.2)then
  (some (i:Int))
  else
  ((eV l tl) (i+1))

def pG(l:aw):Option Int:=
 if((decide ((l.Nodes.length:Int)<(1:Int)))||(decide ((60:Int)<(l.Nodes.length:Int))))then
 (some (0:Int))
 else
 (eV l l.Nodes 0)

def yD(l:aw):Option Bool:=
 (pG l).bind fun r=>
 some (decide (r<(0:Int)))

def rY(n2:aa):Option aa:=
 some n2

def rZ(by1:Int)(n1:aa):Option aa:=
 if(decide ((0:Int)<=n1.B))then
 (rY (aa.mk n1.Op n1.A (IntKind.i64.wrap (n1.B+by1)) n1.Table n1.Kinds n1.Left n1.Cond n1.Keys n1.Aggs n1.Items n1.Order n1.Limit))
 else
 (rY n1)

def we(n:aa)(by1:Int):Option aa:=
 if(decide ((0:Int)<=n.A))then
 (rZ by1 (aa.mk n.Op (IntKind.i64.wrap (n.A+by1)) n.B n.Table n.Kinds n.Left n.Cond n.Keys n.Aggs n.Items n.Order n.Limit))
 else
 (rZ by1 n)

def mT(l:aw)(at1:Int)(r:Int):Nat->Int->aw->Option aw
  |0,_,_=>none
  |n+1,i,out=>
    if(decide (i<=at1))then
    ((cU l.Nodes i).bind fun e=>
    (we e (IntKind.i64.wrap (0-(IntKind.i64.wrap ((IntKind.i64.wrap (at1-r))+(1:Int)))))).bind fun r1=>
    (jT out.Nodes ([r1])).bind fun l2=>
    (mT l at1 r n) (IntKind.i64.wrap (i+(1:Int))) ({out with Nodes:=l2}:aw))
    else
    (some out)

def Aj(l:aw)(at1:Int):Option aw:=
 (gI l at1).bind fun r=>
 mT l at1 r gi (IntKind.i64.wrap ((IntKind.i64.wrap (at1-r))+(1:Int))) ({(⟨[]⟩:aw)with Nodes:=([]:List aa)}:aw)
end Go.Proofs.YtbmmihfagmchaaaGreat

