import Derived.Test.YtaehdhmbgmbgiaaGreatDoorKkF
set_option linter.all false
namespace Go.Proofs.YtaehdhmbgmbgiaaGreatDoor
open Go IntKind
structure DBig where
 D:(List Int)
 Below:Bool
 deriving DecidableEq,Inhabited
def n8(v:ac):Option Bool:=
  if(v.Kind==(0:Int))then
  (some (decide (v=(⟨(0:Int),(0:Int),(0:Int),[]⟩:ac))))
  else
  (if(v.Kind==(1:Int))then
  (some (((v.U==(0:Int))&&(v.S==([])))&&((v.N==(0:Int))||(v.N==(1:Int)))))
  else
  (if(v.Kind==(2:Int))then
  (some ((v.U==(0:Int))&&(v.S==([]))))
  else
  (if(v.Kind==(3:Int))then
  (some (((v.N==(0:Int))&&(v.U==(0:Int)))&&(decide ((v.S.length:Int)<=(40:Int)))))
  else
  (some ((v.Kind==(4:Int))&&(v.S==([])))))))
def yU(less:Bool):Option Int:=
 if less then
 (some (-1:Int))
 else
 (some (1:Int))
def IK(a1:ac)(b:ac):Option Int:=
  if(a1.Kind !=b.Kind)then
  ((yU (decide (a1.Kind<b.Kind))).bind fun r=>
  some r)
  else
  (if(a1.N !=b.N)then
  ((yU (decide (a1.N<b.N))).bind fun r1=>
  some r1)
  else
  (if(a1.U !=b.U)then
  ((yU (decide (a1.U<b.U))).bind fun r2=>
  some r2)
  else
  (if(!(a1.S==b.S))then
  ((yU (Op.bytesLess a1.S b.S)).bind fun r3=>
  some r3)
  else
  (some (0:Int)))))
def pQ(x1:Bool):Option Int:=
 if x1 then
 (some (1:Int))
 else
 (some (-1:Int))
def yS(op:Int)(x:Bool):Option Int:=
  if x then
  (some (2:Int))
  else
  (if(op==(3:Int))then
  (pQ (op==(3:Int)))
  else
  (if(op==(4:Int))then
  (pQ (op==(4:Int)))
  else
  (if(op==(5:Int))then
  (pQ (op==(5:Int)))
  else
  (if(op==(6:Int))then
  (pQ (op==(6:Int)))
  else
  (pQ (op==(8:Int)))))))
def CF(op:Int):Option Int:=
  if(op==(1:Int))then
  (some (0:Int))
  else
  (if(op==(2:Int))then
  (yS op (op==(2:Int)))
  else
  (yS op (op==(7:Int))))
def cY:Nat->aZ->Int->Option Int
  |0,_,_=>none
  |fu+1,l,q_=>
    if((decide (q_<(0:Int)))||(decide ((l.j'.length:Int)<=q_)))then
    (some (0:Int))
    else
    ((cO l.j' q_).bind fun e=>
    (CF e.Op).bind fun r=>
    if(r==(0:Int))then
    (if((e.A==(-1:Int))&&(e.B==(-1:Int)))then
    (some (1:Int))
    else
    (some (0:Int)))
    else
    (if(r==(1:Int))then
    (if((e.A==(i64.wrap (q_-(1:Int))))&&(e.B==(-1:Int)))then
    (((cY fu) l e.A).bind fun r1=>
    if(decide ((0:Int)<r1))then
    (some (i64.wrap (r1+(1:Int))))
    else
    (some (0:Int)))
    else
    (some (0:Int)))
    else
    (if(r==(2:Int))then
    (if(e.B==(i64.wrap (q_-(1:Int))))then
    (((cY fu) l e.B).bind fun r2=>
    if((decide ((0:Int)<r2))&&(e.A==(i64.wrap (e.B-r2))))then
    (((cY fu) l e.A).bind fun r3=>
    if(decide ((0:Int)<r3))then
    (some (i64.wrap ((i64.wrap (r3+r2))+(1:Int))))
    else
    (some (0:Int)))
    else
    (some (0:Int)))
    else
    (some (0:Int)))
    else
    (some (0:Int)))))
def nr(l:aZ)(q_:Int):Option Int:=
 cY jl l q_
def AE(n:ai):Option Bool:=
  if((n.Op !=(1:Int))&&((n.Table !=(0:Int))||(decide ((0:Int)<(n.P'.length:Int)))))then
  (some false)
  else
  (if(((n.Op !=(2:Int))&&n.Left)||(((n.Op !=(2:Int))&&(n.Op !=(3:Int)))&&(decide ((0:Int)<(n.J'.j'.length:Int)))))then
  (some false)
  else
  (if(((n.Op !=(4:Int))&&((decide ((0:Int)<(n.Q'.length:Int)))||(decide ((0:Int)<(n.M'.length:Int)))))||((n.Op !=(5:Int))&&(decide ((0:Int)<(n.I'.length:Int)))))then
  (some false)
  else
  (some ((n.Op==(8:Int))||(((n.R'.length:Int)==(0:Int))&&(n.U'==(0:Int)))))))
def IJ(tag:Int):Option Int:=
  if((decide (tag<(1:Int)))||(decide ((23:Int)<tag)))then
  (some (-1:Int))
  else
  (if(decide (tag<=(3:Int)))then
  (some (0:Int))
  else
  (if(decide (tag<=(11:Int)))then
  (some (1:Int))
  else
  (some (2:Int))))
def CI(tag:Int):Option Int:=
  if((tag==(3:Int))||((decide ((8:Int)<=tag))&&(decide (tag<=(11:Int)))))then
  (some (-1:Int))
  else
  ((IJ tag).bind fun r=>
  some r)
def CJ(v:ac):Option Bool:=
 (n8 v).bind fun r=>
 some (r&&(v.Kind !=(4:Int)))
def mS(n:av):Option Bool:=
  if(n.Tag==(1:Int))then
  ((CJ n.Value).bind fun r=>
  some (r&&(n.X'==(0:Int))))
  else
  (if(n.Tag==(2:Int))then
  (some (((decide (n.Value=(⟨(0:Int),(0:Int),(0:Int),[]⟩:ac)))&&(decide ((0:Int)<=n.X')))&&(decide (n.X'<(16:Int)))))
  else
  (some ((decide (n.Value=(⟨(0:Int),(0:Int),(0:Int),[]⟩:ac)))&&(n.X'==(0:Int)))))
def mR:Nat->au->Int->Option Int
  |0,_,_=>none
  |fu+1,e,place=>
    if((decide (place<(0:Int)))||(decide ((e.j'.length:Int)<=place)))then
    (some (0:Int))
    else
    ((cO e.j' place).bind fun e1=>
    (CI e1.Tag).bind fun r=>
    (if(!(decide (r<(0:Int))))then((mS e1).bind fun r1=>
    some (!r1))else some true).bind fun t=>
    if t then
    (some (0:Int))
    else
    (if(r==(0:Int))then
    (if((e1.L !=(-1:Int))||(e1.R !=(-1:Int)))then
    (some (0:Int))
    else
    (some (1:Int)))
    else
    (((mR fu) e (i64.wrap (place-(1:Int)))).bind fun r2=>
    if(r2==(0:Int))then
    (some (0:Int))
    else
    (if(r==(1:Int))then
    (if((e1.L !=(i64.wrap (place-(1:Int))))||(e1.R !=(-1:Int)))then
    (some (0:Int))
    else
    (some (i64.wrap (r2+(1:Int)))))
    else
    (((mR fu) e (i64.wrap ((i64.wrap (place-(1:Int)))-r2))).bind fun r3=>
    if(((r3==(0:Int))||(e1.R !=(i64.wrap (place-(1:Int)))))||(e1.L !=(i64.wrap ((i64.wrap (place-(1:Int)))-r2))))then
    (some (0:Int))
    else
    (some (i64.wrap ((i64.wrap (r3+r2))+(1:Int)))))))))
def Lp(e:au)(place:Int):Option Int:=
 mR jl e place
def CH(e:au):Option Bool:=
  (if((decide ((1:Int)<=(e.j'.length:Int)))&&(decide ((e.j'.length:Int)<=(1000:Int))))then((Lp e (i64.wrap ((e.j'.length:Int)-(1:Int)))).bind fun r=>
  some (r==(e.j'.length:Int)))else some false).bind fun t=>
  some t
def ly(k:Int)(want:Int):Option Bool:=
 some ((k==want)||(k==(0:Int)))
def mw(tag:Int)(l:Int)(r:Int):Option (Int×Bool):=
  if((tag==(4:Int))||((decide ((12:Int)<=tag))&&(decide (tag<=(15:Int)))))then
  ((ly l (2:Int)).bind fun r1=>
  (if r1 then((ly r (2:Int)).bind fun r2=>
  some r2)else some false).bind fun t=>
  some ((2:Int),t))
  else
  (if((tag==(5:Int))||(decide ((22:Int)<=tag)))then
  ((ly l (1:Int)).bind fun r3=>
  (if r3 then((ly r (1:Int)).bind fun r4=>
  some r4)else some false).bind fun t1=>
  some ((1:Int),t1))
  else
  (if((tag==(6:Int))||(tag==(7:Int)))then
  (some ((1:Int),true))
  else
  (some ((1:Int),(((l==r)||(l==(0:Int)))||(r==(0:Int)))))))
def wG(nx2:(List Int)->Option (Int×Int))(e3:av)(own:List Int)(e6:Int)(r1:Int):Option (Int×Int):=
  (mw e3.Tag e6 r1).bind fun r2=>
  if(!r2.2)then
  (some ((0:Int),(201:Int)))
  else
  ((app own ([r2.1])).bind fun own3=>
  nx2 own3)
def fd(v':(List Int)):List av->(List Int)->Option (Int×Int)
  |[],own=>
    (cO own (i64.wrap ((own.length:Int)-(1:Int)))).bind fun e4=>
    some (e4,(0:Int))
  |e3::tl2,own=>
    if(e3.Tag==(1:Int))then
    ((app own ([e3.Value.Kind])).bind fun own1=>
    (fd v' tl2) own1)
    else
    (if(e3.Tag==(2:Int))then
    ((cO v' e3.X').bind fun e5=>
    (app own ([e5])).bind fun own2=>
    (fd v' tl2) own2)
    else
    ((cO own e3.L).bind fun e6=>
    if(decide ((0:Int)<=e3.R))then
    ((cO own e3.R).bind fun e7=>
    wG (fd v' tl2) e3 own e6 e7)
    else
    (wG (fd v' tl2) e3 own e6 (0:Int))))
def tN(e:au)(v':(List Int)):List av->Option (Int×Int)
 |[]=>
  fd v' e.j' ([]:List Int)
 |e2::tl1=>
  if((e2.Tag==(2:Int))&&(decide ((v'.length:Int)<=e2.X')))then
  (some ((0:Int),(2:Int)))
  else
  ((tN e v' tl1))
def wF(e:au)(v':(List Int)):List Int->Option (Int×Int)
 |[]=>
  tN e v' e.j'
 |e1::tl=>
  if((decide (e1<(0:Int)))||(decide ((3:Int)<e1)))then
  (some ((0:Int),(2:Int)))
  else
  ((wF e v' tl))
def yT(e:au)(v':(List Int)):Option (Int×Int):=
 (CH e).bind fun r=>
 if(!r)then
 (some ((0:Int),(200:Int)))
 else
 (wF e v' v')
def zB(e:au)(v':(List Int)):Option Bool:=
 (yT e v').bind fun r=>
 some ((r.2==(0:Int))&&((r.1==(0:Int))||(r.1==(1:Int))))
def oY(a1:jx)(v':(List Int)):Option (Int×Bool):=
  if(a1.Tag==(1:Int))then
  (some ((2:Int),((a1.Arg.j'.length:Int)==(0:Int))))
  else
  ((yT a1.Arg v').bind fun r=>
  if(((decide (a1.Tag<(1:Int)))||(decide ((5:Int)<a1.Tag)))||(r.2 !=(0:Int)))then
  (some ((0:Int),false))
  else
  (if(((a1.Tag==(3:Int))&&(r.1 !=(2:Int)))&&(r.1 !=(0:Int)))then
  (some ((0:Int),false))
  else
  (if(decide ((4:Int)<=a1.Tag))then
  (some (r.1,true))
  else
  (some ((2:Int),true)))))
def dY(n:ai):Nat->Bool->Int->Option ((List Int)×Bool)
  |0,_,_=>none
  |n1+1,ok,i=>
    if(decide (i<(n.P'.length:Int)))then
    ((if ok then((cO n.P' i).bind fun e=>
    some (decide ((1:Int)<=e)))else some false).bind fun t=>
    (if t then((cO n.P' i).bind fun e1=>
    some (decide (e1<=(3:Int))))else some false).bind fun t1=>
    (dY n n1) t1 (i64.wrap (i+(1:Int))))
    else
    (some (n.P',((((ok&&(decide ((0:Int)<=n.Table)))&&(decide (n.Table<=(3:Int))))&&(decide ((1:Int)<=(n.P'.length:Int))))&&(decide ((n.P'.length:Int)<=(4:Int))))))
def ez(n:ai)(a1:(List Int)):Nat->(List Int)->Bool->Int->Option ((List Int)×Bool)
  |0,_,_,_=>none
  |n3+1,S_,ok1,i2=>
    if(decide (i2<(n.M'.length:Int)))then
    ((cO n.M' i2).bind fun e4=>
    (oY e4 a1).bind fun r2=>
    (app S_ ([r2.1])).bind fun out4=>
    (ez n a1 n3) out4 (ok1&&r2.2) (i64.wrap (i2+(1:Int))))
    else
    (some (S_,(((ok1&&(decide ((n.Q'.length:Int)<=(3:Int))))&&(decide ((n.M'.length:Int)<=(12:Int))))&&(decide ((0:Int)<(S_.length:Int))))))
def eC(n:ai)(a1:(List Int)):Nat->(List Int)->Int->Option ((List Int)×Bool)
  |0,_,_=>none
  |n2+1,L',i1=>
    if(decide (i1<(n.Q'.length:Int)))then
    ((cO n.Q' i1).bind fun e2=>
    if((decide (e2<(0:Int)))||(decide ((a1.length:Int)<=e2)))then
    (some ([],false))
    else
    ((cO a1 e2).bind fun e3=>
    (app L' ([e3])).bind fun z_=>
    (eC n a1 n2) z_ (i64.wrap (i1+(1:Int)))))
    else
    (ez n a1 jl L' true (0:Int))
def dw(n:ai)(a1:(List Int)):Nat->(List Int)->Bool->Int->Option ((List Int)×Bool)
  |0,_,_,_=>none
  |n4+1,out5,ok2,i3=>
    if(decide (i3<(n.I'.length:Int)))then
    ((cO n.I' i3).bind fun e5=>
    (yT e5 a1).bind fun r3=>
    (app out5 ([r3.1])).bind fun out6=>
    (dw n a1 n4) out6 (ok2&&(r3.2==(0:Int))) (i64.wrap (i3+(1:Int))))
    else
    (some (out5,((ok2&&(decide ((1:Int)<=(out5.length:Int))))&&(decide ((out5.length:Int)<=(16:Int))))))
def lw(b:(List Int))(nx4:Nat->(List Int)->Bool->Option ((List Int)×Bool))(i4:Nat)(out7:List Int)(ok3:Bool)(k:Int):Option ((List Int)×Bool):=
  (app out7 ([k])).bind fun out8=>
  (if ok3 then((cO b (i4:Int)).bind fun e7=>
  (if(!(e7==k))then((cO b (i4:Int)).bind fun e8=>
  some (e8==(0:Int)))else some true).bind fun t3=>
  some t3)else some false).bind fun t2=>
  nx4 (i4+1) out8 t2
def fg(b:(List Int)):List Int->Nat->(List Int)->Bool->Option ((List Int)×Bool)
  |[],i4,out7,ok3=>
    some (out7,ok3)
  |e6::tl,i4,out7,ok3=>
    if(e6==(0:Int))then
    ((cO b (i4:Int)).bind fun e9=>
    lw b (fg b tl) i4 out7 ok3 e9)
    else
    (lw b (fg b tl) i4 out7 ok3 e6)
def dJ(n:ai)(a1:(List Int)):Nat->Bool->Int->Option ((List Int)×Bool)
  |0,_,_=>none
  |n5+1,ok4,i5=>
    if(decide (i5<(n.R'.length:Int)))then
    ((if ok4 then((cO n.R' i5).bind fun e10=>
    some (decide ((0:Int)<=e10.X')))else some false).bind fun t4=>
    (if t4 then((cO n.R' i5).bind fun e11=>
    some (decide (e11.X'<(a1.length:Int))))else some false).bind fun t5=>
    (dJ n a1 n5) t5 (i64.wrap (i5+(1:Int))))
    else
    (some (a1,(((ok4&&(decide ((n.R'.length:Int)<=(3:Int))))&&(decide ((-1:Int)<=n.U')))&&(decide (n.U'<=(2147483647:Int))))))
def bB(n:ai)(a1:(List Int))(b:(List Int)):Option ((List Int)×Bool):=
  if(n.Op==(1:Int))then
  (dY n jl true (0:Int))
  else
  (if(n.Op==(2:Int))then
  ((app ([]:List Int) a1).bind fun l=>
  (app l b).bind fun out=>
  (zB n.J' out).bind fun r=>
  some (out,r))
  else
  (if(n.Op==(3:Int))then
  ((zB n.J' a1).bind fun r1=>
  some (a1,r1))
  else
  (if(n.Op==(4:Int))then
  (eC n a1 jl ([]:List Int) (0:Int))
  else
  (if(n.Op==(5:Int))then
  (dw n a1 jl ([]:List Int) true (0:Int))
  else
  (if(n.Op==(6:Int))then
  (some (a1,true))
  else
  (if(n.Op==(7:Int))then
  (if((a1.length:Int) !=(b.length:Int))then
  (some ([],false))
  else
  (fg b a1 0 ([]:List Int) true))
  else
  (dJ n a1 jl true (0:Int))))))))
def ke(l:aZ)(q_:Int)(e1:ai)(a1:(List Int))(b1:(List Int)):Option ((List Int)×Bool):=
 (bB e1 a1 b1).bind fun r2=>
 if(((e1.Op==(8:Int))&&(q_ !=(i64.wrap ((l.j'.length:Int)-(1:Int)))))||(decide ((16:Int)<(r2.1.length:Int))))then
 (some ([],false))
 else
 (some (r2.1,r2.2))
def hX(self__:aZ->Int->Option ((List Int)×Bool))(l:aZ)(q_:Int)(e1:ai)(a1:(List Int)):Option ((List Int)×Bool):=
  if(decide ((0:Int)<=e1.B))then
  ((self__ l e1.B).bind fun r3=>
  if(!r3.2)then
  (some ([],false))
  else
  (ke l q_ e1 a1 r3.1))
  else
  (ke l q_ e1 a1 ([]))
def dl:Nat->aZ->Int->Option ((List Int)×Bool)
  |0,_,_=>none
  |fu+1,l,q_=>
    (nr l q_).bind fun r=>
    (if(!(r==(0:Int)))then((cO l.j' q_).bind fun e=>
    (AE e).bind fun r1=>
    some (!r1))else some true).bind fun t=>
    if t then
    (some ([],false))
    else
    ((cO l.j' q_).bind fun e1=>
    if(decide ((0:Int)<=e1.A))then
    (((dl fu) l e1.A).bind fun r4=>
    if(!r4.2)then
    (some ([],false))
    else
    (hX (dl fu) l q_ e1 r4.1))
    else
    (hX (dl fu) l q_ e1 ([])))
def wY(l:aZ)(q_:Int):Option ((List Int)×Bool):=
 dl jl l q_
def iL(l:aZ):List ai->Nat->Option Int
 |[],i=>
  (nr l (i64.wrap ((l.j'.length:Int)-(1:Int)))).bind fun r=>
  if(r !=(l.j'.length:Int))then
  (some (i64.wrap ((l.j'.length:Int)-(1:Int))))
  else
  (some (-1:Int))
 |e::tl,i=>
  (wY l (i:Int)).bind fun r1=>
  if(!r1.2)then
  (some (i:Int))
  else
  ((iL l tl) (i+1))
def wX(l:aZ):Option Int:=
 if((decide ((l.j'.length:Int)<(1:Int)))||(decide ((60:Int)<(l.j'.length:Int))))then
 (some (0:Int))
 else
 (iL l l.j' 0)
def II(l:aZ):Option Bool:=
 (wX l).bind fun r=>
 some (decide (r<(0:Int)))
def Ad(r:(List ac)):List Int->(List ac)->Option (List ac)
 |[],out=>
  some out
 |e::tl,out=>
  (cO r e).bind fun e1=>
  (app out ([e1])).bind fun L'=>
  (Ad r tl) L'
