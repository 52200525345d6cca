import Derived.Test.YtadeokalnbmppaaGreatDoorReF
set_option linter.all false
namespace Go.Proofs.YtadeokalnbmppaaGreatDoor
open Go IntKind
def pe(x1:Bool):Option Int:=
 if x1 then
 (some (1:Int))
 else
 (some (-1:Int))
def wp(op:Int)(x:Bool):Option Int:=
  if x then
  (some (2:Int))
  else
  (if(op==(3:Int))then
  (pe (op==(3:Int)))
  else
  (if(op==(4:Int))then
  (pe (op==(4:Int)))
  else
  (if(op==(5:Int))then
  (pe (op==(5:Int)))
  else
  (if(op==(6:Int))then
  (pe (op==(6:Int)))
  else
  (pe (op==(8:Int)))))))
def xi(op:Int):Option Int:=
  if(op==(1:Int))then
  (some (0:Int))
  else
  (if(op==(2:Int))then
  (wp op (op==(2:Int)))
  else
  (wp op (op==(7:Int))))
def cU:Nat->cQ->Int->Option Int
  |0,_,_=>none
  |fu+1,l,r_=>
    if((decide (r_<(0:Int)))||(decide ((l.u'.length:Int)<=r_)))then
    (some (0:Int))
    else
    ((dm l.u' r_).bind fun e=>
    (xi e.Op).bind fun r=>
    if(r==(0:Int))then
    (if((e.A==(-1:Int))&&(e.B==(-1:Int)))then
    (some (1:Int))
    else
    (some (0:Int)))
    else
    (if(r==(1:Int))then
    (if((e.A==(i64.wrap (r_-(1:Int))))&&(e.B==(-1:Int)))then
    (((cU fu) l e.A).bind fun r1=>
    if(decide ((0:Int)<r1))then
    (some (i64.wrap (r1+(1:Int))))
    else
    (some (0:Int)))
    else
    (some (0:Int)))
    else
    (if(r==(2:Int))then
    (if(e.B==(i64.wrap (r_-(1:Int))))then
    (((cU fu) l e.B).bind fun r2=>
    if((decide ((0:Int)<r2))&&(e.A==(i64.wrap (e.B-r2))))then
    (((cU fu) l e.A).bind fun r3=>
    if(decide ((0:Int)<r3))then
    (some (i64.wrap ((i64.wrap (r3+r2))+(1:Int))))
    else
    (some (0:Int)))
    else
    (some (0:Int)))
    else
    (some (0:Int)))
    else
    (some (0:Int)))))
def nz(l:cQ)(r_:Int):Option Int:=
 cU ko l r_
def qg(n:ac):Option Bool:=
  if((n.Op !=(1:Int))&&((n.M' !=(0:Int))||(decide ((0:Int)<(n.U'.length:Int)))))then
  (some false)
  else
  (if(((n.Op !=(2:Int))&&n.Left)||(((n.Op !=(2:Int))&&(n.Op !=(3:Int)))&&(decide ((0:Int)<(n.f_.u'.length:Int)))))then
  (some false)
  else
  (if(((n.Op !=(4:Int))&&((decide ((0:Int)<(n.I'.length:Int)))||(decide ((0:Int)<(n.L'.length:Int)))))||((n.Op !=(5:Int))&&(decide ((0:Int)<(n.N'.length:Int)))))then
  (some false)
  else
  (some ((n.Op==(8:Int))||(((n.Y'.length:Int)==(0:Int))&&(n.Z'==(0:Int)))))))
def Fj(tag:Int):Option Int:=
  if((decide (tag<(1:Int)))||(decide ((23:Int)<tag)))then
  (some (-1:Int))
  else
  (if(decide (tag<=(3:Int)))then
  (some (0:Int))
  else
  (if(decide (tag<=(11:Int)))then
  (some (1:Int))
  else
  (some (2:Int))))
def Al(tag:Int):Option Int:=
  if((tag==(3:Int))||((decide ((8:Int)<=tag))&&(decide (tag<=(11:Int)))))then
  (some (-1:Int))
  else
  ((Fj tag).bind fun r=>
  some r)
def sK(v:dX):Option Bool:=
  if(v.Kind==(0:Int))then
  (some (decide (v=(⟨(0:Int),(0:Int),(0:Int),[]⟩:dX))))
  else
  (if(v.Kind==(1:Int))then
  (some (((v.U==(0:Int))&&(v.S==([])))&&((v.N==(0:Int))||(v.N==(1:Int)))))
  else
  (if(v.Kind==(2:Int))then
  (some ((v.U==(0:Int))&&(v.S==([]))))
  else
  (if(v.Kind==(3:Int))then
  (some (((v.N==(0:Int))&&(v.U==(0:Int)))&&(decide ((v.S.length:Int)<=(40:Int)))))
  else
  (some ((v.Kind==(4:Int))&&(v.S==([])))))))
def Am(v:dX):Option Bool:=
 (sK v).bind fun r=>
 some (r&&(v.Kind !=(4:Int)))
def pL(n:bw):Option Bool:=
  if(n.Tag==(1:Int))then
  ((Am n.Value).bind fun r=>
  some (r&&(n.y_==(0:Int))))
  else
  (if(n.Tag==(2:Int))then
  (some (((decide (n.Value=(⟨(0:Int),(0:Int),(0:Int),[]⟩:dX)))&&(decide ((0:Int)<=n.y_)))&&(decide (n.y_<(16:Int)))))
  else
  (some ((decide (n.Value=(⟨(0:Int),(0:Int),(0:Int),[]⟩:dX)))&&(n.y_==(0:Int)))))
def lL:Nat->bD->Int->Option Int
  |0,_,_=>none
  |fu+1,e,place=>
    if((decide (place<(0:Int)))||(decide ((e.u'.length:Int)<=place)))then
    (some (0:Int))
    else
    ((dm e.u' place).bind fun e1=>
    (Al e1.Tag).bind fun r=>
    (if(!(decide (r<(0:Int))))then((pL e1).bind fun r1=>
    some (!r1))else some true).bind fun t=>
    if t then
    (some (0:Int))
    else
    (if(r==(0:Int))then
    (if((e1.L !=(-1:Int))||(e1.R !=(-1:Int)))then
    (some (0:Int))
    else
    (some (1:Int)))
    else
    (((lL fu) e (i64.wrap (place-(1:Int)))).bind fun r2=>
    if(r2==(0:Int))then
    (some (0:Int))
    else
    (if(r==(1:Int))then
    (if((e1.L !=(i64.wrap (place-(1:Int))))||(e1.R !=(-1:Int)))then
    (some (0:Int))
    else
    (some (i64.wrap (r2+(1:Int)))))
    else
    (((lL fu) e (i64.wrap ((i64.wrap (place-(1:Int)))-r2))).bind fun r3=>
    if(((r3==(0:Int))||(e1.R !=(i64.wrap (place-(1:Int)))))||(e1.L !=(i64.wrap ((i64.wrap (place-(1:Int)))-r2))))then
    (some (0:Int))
    else
    (some (i64.wrap ((i64.wrap (r3+r2))+(1:Int)))))))))
def Hh(e:bD)(place:Int):Option Int:=
 lL ko e place
def Ak(e:bD):Option Bool:=
  (if((decide ((1:Int)<=(e.u'.length:Int)))&&(decide ((e.u'.length:Int)<=(1000:Int))))then((Hh e (i64.wrap ((e.u'.length:Int)-(1:Int)))).bind fun r=>
  some (r==(e.u'.length:Int)))else some false).bind fun t=>
  some t
def ui(k:Int)(want:Int):Option Bool:=
 some ((k==want)||(k==(0:Int)))
def wq(tag:Int)(l:Int)(r:Int):Option (Int×Bool):=
  if((tag==(4:Int))||((decide ((12:Int)<=tag))&&(decide (tag<=(15:Int)))))then
  ((ui l (2:Int)).bind fun r1=>
  (if r1 then((ui r (2:Int)).bind fun r2=>
  some r2)else some false).bind fun t=>
  some ((2:Int),t))
  else
  (if((tag==(5:Int))||(decide ((22:Int)<=tag)))then
  ((ui l (1:Int)).bind fun r3=>
  (if r3 then((ui r (1:Int)).bind fun r4=>
  some r4)else some false).bind fun t1=>
  some ((1:Int),t1))
  else
  (if((tag==(6:Int))||(tag==(7:Int)))then
  (some ((1:Int),true))
  else
  (some ((1:Int),(((l==r)||(l==(0:Int)))||(r==(0:Int)))))))
def uF(nx2:(List Int)->Option (Int×Int))(e3:bw)(own:List Int)(e6:Int)(r1:Int):Option (Int×Int):=
  (wq e3.Tag e6 r1).bind fun r2=>
  if(!r2.2)then
  (some ((0:Int),(201:Int)))
  else
  ((nH own ([r2.1])).bind fun own3=>
  nx2 own3)
def eF(j':(List Int)):List bw->(List Int)->Option (Int×Int)
  |[],own=>
    (dm own (i64.wrap ((own.length:Int)-(1:Int)))).bind fun e4=>
    some (e4,(0:Int))
  |e3::tl2,own=>
    if(e3.Tag==(1:Int))then
    ((nH own ([e3.Value.Kind])).bind fun own1=>
    (eF j' tl2) own1)
    else
    (if(e3.Tag==(2:Int))then
    ((dm j' e3.y_).bind fun e5=>
    (nH own ([e5])).bind fun own2=>
    (eF j' tl2) own2)
    else
    ((dm own e3.L).bind fun e6=>
    if(decide ((0:Int)<=e3.R))then
    ((dm own e3.R).bind fun e7=>
    uF (eF j' tl2) e3 own e6 e7)
    else
    (uF (eF j' tl2) e3 own e6 (0:Int))))
def ry(e:bD)(j':(List Int)):List bw->Option (Int×Int)
 |[]=>
  eF j' e.u' ([]:List Int)
 |e2::tl1=>
  if((e2.Tag==(2:Int))&&(decide ((j'.length:Int)<=e2.y_)))then
  (some ((0:Int),(2:Int)))
  else
  ((ry e j' tl1))
def uE(e:bD)(j':(List Int)):List Int->Option (Int×Int)
 |[]=>
  ry e j' e.u'
 |e1::tl=>
  if((decide (e1<(0:Int)))||(decide ((3:Int)<e1)))then
  (some ((0:Int),(2:Int)))
  else
  ((uE e j' tl))
def wr(e:bD)(j':(List Int)):Option (Int×Int):=
 (Ak e).bind fun r=>
 if(!r)then
 (some ((0:Int),(200:Int)))
 else
 (uE e j' j')
def xh(e:bD)(j':(List Int)):Option Bool:=
 (wr e j').bind fun r=>
 some ((r.2==(0:Int))&&((r.1==(0:Int))||(r.1==(1:Int))))
def nW(a1:fh)(j':(List Int)):Option (Int×Bool):=
  if(a1.Tag==(1:Int))then
  (some ((2:Int),((a1.N_.u'.length:Int)==(0:Int))))
  else
  ((wr a1.N_ j').bind fun r=>
  if(((decide (a1.Tag<(1:Int)))||(decide ((5:Int)<a1.Tag)))||(r.2 !=(0:Int)))then
  (some ((0:Int),false))
  else
  (if(((a1.Tag==(3:Int))&&(r.1 !=(2:Int)))&&(r.1 !=(0:Int)))then
  (some ((0:Int),false))
  else
  (if(decide ((4:Int)<=a1.Tag))then
  (some (r.1,true))
  else
  (some ((2:Int),true)))))
def ep(n:ac):Nat->Bool->Int->Option ((List Int)×Bool)
  |0,_,_=>none
  |n1+1,ok,i=>
    if(decide (i<(n.U'.length:Int)))then
    ((if ok then((dm n.U' i).bind fun e=>
    some (decide ((1:Int)<=e)))else some false).bind fun t=>
    (if t then((dm n.U' i).bind fun e1=>
    some (decide (e1<=(3:Int))))else some false).bind fun t1=>
    (ep n n1) t1 (i64.wrap (i+(1:Int))))
    else
    (some (n.U',((((ok&&(decide ((0:Int)<=n.M')))&&(decide (n.M'<=(3:Int))))&&(decide ((1:Int)<=(n.U'.length:Int))))&&(decide ((n.U'.length:Int)<=(4:Int))))))
def eo(n:ac)(a1:(List Int)):Nat->(List Int)->Bool->Int->Option ((List Int)×Bool)
  |0,_,_,_=>none
  |n3+1,out3,ok1,i2=>
    if(decide (i2<(n.L'.length:Int)))then
    ((dm n.L' i2).bind fun e4=>
    (nW e4 a1).bind fun r2=>
    (nH out3 ([r2.1])).bind fun out4=>
    (eo n a1 n3) out4 (ok1&&r2.2) (i64.wrap (i2+(1:Int))))
    else
    (some (out3,(((ok1&&(decide ((n.I'.length:Int)<=(3:Int))))&&(decide ((n.L'.length:Int)<=(12:Int))))&&(decide ((0:Int)<(out3.length:Int))))))
def eN(n:ac)(a1:(List Int)):Nat->(List Int)->Int->Option ((List Int)×Bool)
  |0,_,_=>none
  |n2+1,g_,i1=>
    if(decide (i1<(n.I'.length:Int)))then
    ((dm n.I' i1).bind fun e2=>
    if((decide (e2<(0:Int)))||(decide ((a1.length:Int)<=e2)))then
    (some ([],false))
    else
    ((dm a1 e2).bind fun e3=>
    (nH g_ ([e3])).bind fun out2=>
    (eN n a1 n2) out2 (i64.wrap (i1+(1:Int)))))
    else
    (eo n a1 ko g_ true (0:Int))
def eM(n:ac)(a1:(List Int)):Nat->(List Int)->Bool->Int->Option ((List Int)×Bool)
  |0,_,_,_=>none
  |n4+1,out5,ok2,i3=>
    if(decide (i3<(n.N'.length:Int)))then
    ((dm n.N' i3).bind fun e5=>
    (wr e5 a1).bind fun r3=>
    (nH out5 ([r3.1])).bind fun out6=>
    (eM n a1 n4) out6 (ok2&&(r3.2==(0:Int))) (i64.wrap (i3+(1:Int))))
    else
    (some (out5,((ok2&&(decide ((1:Int)<=(out5.length:Int))))&&(decide ((out5.length:Int)<=(16:Int))))))
def pc(b:(List Int))(nx4:Nat->(List Int)->Bool->Option ((List Int)×Bool))(i4:Nat)(out7:List Int)(ok3:Bool)(k:Int):Option ((List Int)×Bool):=
  (nH out7 ([k])).bind fun out8=>
  (if ok3 then((dm b (i4:Int)).bind fun e7=>
  (if(!(e7==k))then((dm b (i4:Int)).bind fun e8=>
  some (e8==(0:Int)))else some true).bind fun t3=>
  some t3)else some false).bind fun t2=>
  nx4 (i4+1) out8 t2
def iT(b:(List Int)):List Int->Nat->(List Int)->Bool->Option ((List Int)×Bool)
  |[],i4,out7,ok3=>
    some (out7,ok3)
  |e6::tl,i4,out7,ok3=>
    if(e6==(0:Int))then
    ((dm b (i4:Int)).bind fun e9=>
    pc b (iT b tl) i4 out7 ok3 e9)
    else
    (pc b (iT b tl) i4 out7 ok3 e6)
def ek(n:ac)(a1:(List Int)):Nat->Bool->Int->Option ((List Int)×Bool)
  |0,_,_=>none
  |n5+1,ok4,i5=>
    if(decide (i5<(n.Y'.length:Int)))then
    ((if ok4 then((dm n.Y' i5).bind fun e10=>
    some (decide ((0:Int)<=e10.y_)))else some false).bind fun t4=>
    (if t4 then((dm n.Y' i5).bind fun e11=>
    some (decide (e11.y_<(a1.length:Int))))else some false).bind fun t5=>
    (ek n a1 n5) t5 (i64.wrap (i5+(1:Int))))
    else
    (some (a1,(((ok4&&(decide ((n.Y'.length:Int)<=(3:Int))))&&(decide ((-1:Int)<=n.Z')))&&(decide (n.Z'<=(2147483647:Int))))))
def ba(n:ac)(a1:(List Int))(b:(List Int)):Option ((List Int)×Bool):=
  if(n.Op==(1:Int))then
  (ep n ko true (0:Int))
  else
  (if(n.Op==(2:Int))then
  ((nH ([]:List Int) a1).bind fun l=>
  (nH l b).bind fun out=>
  (xh n.f_ out).bind fun r=>
  some (out,r))
  else
  (if(n.Op==(3:Int))then
  ((xh n.f_ a1).bind fun r1=>
  some (a1,r1))
  else
  (if(n.Op==(4:Int))then
  (eN n a1 ko ([]:List Int) (0:Int))
  else
  (if(n.Op==(5:Int))then
  (eM n a1 ko ([]:List Int) true (0:Int))
  else
  (if(n.Op==(6:Int))then
  (some (a1,true))
  else
  (if(n.Op==(7:Int))then
  (if((a1.length:Int) !=(b.length:Int))then
  (some ([],false))
  else
  (iT b a1 0 ([]:List Int) true))
  else
  (ek n a1 ko true (0:Int))))))))
def jQ(l:cQ)(r_:Int)(e1:ac)(a1:(List Int))(b1:(List Int)):Option ((List Int)×Bool):=
 (ba e1 a1 b1).bind fun r2=>
 if(((e1.Op==(8:Int))&&(r_ !=(i64.wrap ((l.u'.length:Int)-(1:Int)))))||(decide ((16:Int)<(r2.1.length:Int))))then
 (some ([],false))
 else
 (some (r2.1,r2.2))
def gy(self__:cQ->Int->Option ((List Int)×Bool))(l:cQ)(r_:Int)(e1:ac)(a1:(List Int)):Option ((List Int)×Bool):=
  if(decide ((0:Int)<=e1.B))then
  ((self__ l e1.B).bind fun r3=>
  if(!r3.2)then
  (some ([],false))
  else
  (jQ l r_ e1 a1 r3.1))
  else
  (jQ l r_ e1 a1 ([]))
def du:Nat->cQ->Int->Option ((List Int)×Bool)
  |0,_,_=>none
  |fu+1,l,r_=>
    (nz l r_).bind fun r=>
    (if(!(r==(0:Int)))then((dm l.u' r_).bind fun e=>
    (qg e).bind fun r1=>
    some (!r1))else some true).bind fun t=>
    if t then
    (some ([],false))
    else
    ((dm l.u' r_).bind fun e1=>
    if(decide ((0:Int)<=e1.A))then
    (((du fu) l e1.A).bind fun r4=>
    if(!r4.2)then
    (some ([],false))
    else
    (gy (du fu) l r_ e1 r4.1))
    else
    (gy (du fu) l r_ e1 ([])))
def u0(l:cQ)(r_:Int):Option ((List Int)×Bool):=
 du ko l r_
def ie(l:cQ):List ac->Nat->Option Int
 |[],i=>
  (nz l (i64.wrap ((l.u'.length:Int)-(1:Int)))).bind fun r=>
  if(r !=(l.u'.length:Int))then
  (some (i64.wrap ((l.u'.length:Int)-(1:Int))))
  else
  (some (-1:Int))
 |e::tl,i=>
  (u0 l (i:Int)).bind fun r1=>
  if(!r1.2)then
  (some (i:Int))
  else
  ((ie l tl) (i+1))
def uZ(l:cQ):Option Int:=
 if((decide ((l.u'.length:Int)<(1:Int)))||(decide ((60:Int)<(l.u'.length:Int))))then
 (some (0:Int))
 else
 (ie l l.u' 0)
def Fi(l:cQ):Option Bool:=
 (uZ l).bind fun r=>
 some (decide (r<(0:Int)))
def Aj(op:Int)(x:Bool):Option Int:=
  if x then
  (some (1:Int))
  else
  ((xi op).bind fun r=>
  some r)
def MB(op:Int):Option Int:=
  if(op==(9:Int))then
  (some (0:Int))
  else
  (if(op==(10:Int))then
  (Aj op (op==(10:Int)))
  else
  (Aj op (op==(11:Int))))
def vM:Nat->(List ac)->Int->Option Int
  |0,_,_=>none
  |fu+1,l,r_=>
    if((decide (r_<(0:Int)))||(decide ((l.length:Int)<=r_)))then
    (some (0:Int))
    else
    ((dm l r_).bind fun e=>
    (MB e.Op).bind fun r=>
    if(r==(0:Int))then
    (if((e.A==(-1:Int))&&(e.B==(-1:Int)))then
    (some (1:Int))
    else
    (some (0:Int)))
    else
    (if(r==(1:Int))then
    (((vM fu) l (i64.wrap (r_-(1:Int)))).bind fun r1=>
    if(((e.A==(i64.wrap (r_-(1:Int))))&&(e.B==(-1:Int)))&&(decide ((0:Int)<r1)))then
    (some (i64.wrap (r1+(1:Int))))
    else
    (some (0:Int)))
    else
    (if(r==(2:Int))then
    (((vM fu) l (i64.wrap (r_-(1:Int)))).bind fun r2=>
    if(((r2==(0:Int))||(e.B !=(i64.wrap (r_-(1:Int)))))||(e.A !=(i64.wrap ((i64.wrap (r_-(1:Int)))-r2))))then
    (some (0:Int))
    else
    (((vM fu) l e.A).bind fun r3=>
    if(decide ((0:Int)<r3))then
    (some (i64.wrap ((i64.wrap (r3+r2))+(1:Int))))
    else
    (some (0:Int))))
    else
    (some (0:Int)))))
def tp(n:ac)(x:Bool):Option Bool:=
  if x then
  ((qg (ac.mk (4:Int) n.A n.B n.M' n.U' n.Left n.f_ n.I' n.L' n.N' n.Y' n.Z')).bind fun r1=>
  some r1)
  else
  ((qg n).bind fun r2=>
  some r2)
def A4(n:ac):Option Bool:=
  if(n.Op==(9:Int))then
  ((qg (ac.mk (1:Int) n.A n.B n.M' n.U' n.Left n.f_ n.I' n.L' n.N' n.Y' n.Z')).bind fun r=>
  some r)
  else
  (if(n.Op==(10:Int))then
  (tp n (n.Op==(10:Int)))
  else
  (tp n (n.Op==(11:Int))))
