import Derived.Test.YtaehdhmbgmbgiaaGreatDoorKkD
import Derived.Test.YtaehdhmbgmbgiaaGreatDoorKkV4
set_option linter.all false
namespace Go.Proofs.YtaehdhmbgmbgiaaGreatDoor
open Go IntKind
def jd(f:(Int->Option Bool)):List Int->Nat->Option Int
 |[],i=>some (-1)
 |e::tl,i=>(f e).bind fun r=>if r then(some (i:Int))else((jd f tl) (i+1))
def ph(s:(List Int))(f:(Int->Option Bool)):Option Int:=jd f s 0
def dL(s:(List Int))(f:(Int->Option Bool)):Option Bool:=(ph s f).bind fun r=>some (decide (0<=r))
def IR(k:Int):Option Bool:=some (((k==1)||(k==2))||(k==3))
def m6(k:Int):Option Bool:=(IR k).bind fun r=>some (!r)
def jr(c:aV)(n:ai):Option ((List Int)×Bool):=(if((((decide (0<=n.Table))&&(decide (n.Table<4)))&&(decide (1<=(n.P'.length:Int))))&&(decide ((n.P'.length:Int)<=4)))then((dL n.P' m6).bind fun r=>some (!r))else some false).bind fun t=>some (n.P',t)
def qr(s:List Int):Option (List Int):=some s
def qt(n:Int):Option (List Int):=if(decide (0<(i64.wrap (n-(i64.wrap (0-0))))))then((gt0 (i64.wrap (n-(i64.wrap (0-0))))).bind fun _=>(rQ (i64.wrap (n-(i64.wrap (0-0)))) 0).bind fun mk=>(df mk 0 0).bind fun y=>qr y)else(qr ([]:List Int))
def pE(n:Int):Option (List Int):=if(decide (n<0))then(none)else(qt n)
def mO:List (List Int)->(List Int)->Option (List Int)
 |[],V'=>some V'
 |e1::tl1,V'=>(app V' e1).bind fun f_=>(mO tl1) f_
def mP(slices:(List (List Int))):List (List Int)->Int->Option (List Int)
 |[],size=>(pE size).bind fun r=>mO slices r
 |e::tl,size=>if(decide ((i64.wrap (size+(e.length:Int)))<0))then(none)else((mP slices tl) (i64.wrap (size+(e.length:Int))))
def mh(slices:(List (List Int))):Option (List Int):=mP slices slices 0
def sI(tag:Int):Option Int:=if((tag==1)||(tag==2))then(some 0)else(if((decide (4<=tag))&&(decide (tag<=7)))then(some 1)else(if((decide (12<=tag))&&(decide (tag<=23)))then(some 2)else(some (-1))))
def oB(v1:ac):Option ac:=some v1
def vl(v2:ac):Option ac:=oB (ac.mk 0 v2.N v2.U v2.S)
def vk(v:ac):Option ac:=vl (ac.mk v.Kind 0 v.U v.S)
def vj(v3:ac):Option ac:=oB v3
def Ct(v:ac):Option ac:=if(v.Kind==1)then(if((v.N !=0)&&(v.N !=1))then(oB v)else(vk v))else(if(v.Kind==2)then(vk v)else(if(v.Kind==0)then(vl v)else(if(v.Kind==3)then(if(decide ((v.S.length:Int)<=40))then(vj (ac.mk 0 v.N v.U ([])))else(vj v))else(if(v.Kind==4)then(oB (ac.mk 0 0 0 v.S))else(oB v)))))
def o3(v:ac):Option Int:=(Ct v).bind fun r=>if(!decide (r=(⟨0,0,0,[]⟩:ac)))then(some 120)else(some 0)
def qi(v:ac):Option Bool:=(o3 v).bind fun r=>some ((r==0)&&(v.Kind !=4))
def zM(n:av):Option Bool:=if(n.Tag==1)then((qi n.Value).bind fun r=>some (r&&(n.X'==0)))else(if(n.Tag==2)then(some (((decide (n.Value=(⟨0,0,0,[]⟩:ac)))&&(decide (0<=n.X')))&&(decide (n.X'<16))))else(some ((decide (n.Value=(⟨0,0,0,[]⟩:ac)))&&(n.X'==0))))
def p6(nx:Nat->(List Int)->(List Int)->Option ((List Int)×Bool))(i:Nat)(e1:av)(all:List Int)(open1:List Int)(r:Int):List Int->Nat->Int->(List Int)->Option ((List Int)×Bool)
  |[],i1,first,q_=>if(!decide (q_=([e1.L,e1.R])))then(some ([],false))else((app all ([first])).bind fun all1=>(df open1 0 (i64.wrap ((open1.length:Int)-r))).bind fun y1=>(app y1 ([(i:Int)])).bind fun open2=>nx (i+1) all1 open2)
  |e2::tl1,i1,first,q_=>(cO all e2).bind fun e3=>(cO q_ (i1:Int)).bind fun e4=>(some (q_.set (i1:Int).toNat e2)).bind fun ar=>(p6 nx i e1 all open1 r tl1) (i1+1) (min first e3) ar
def oM:List av->Nat->(List Int)->(List Int)->Option ((List Int)×Bool)
  |[],i,all,open1=>some (all,(((open1.length:Int)==1)&&(decide ((all.length:Int)<=1000))))
  |e1::tl,i,all,open1=>(sI e1.Tag).bind fun r=>(if(!((decide (r<0))||(decide ((open1.length:Int)<r))))then((zM e1).bind fun r1=>some (!r1))else some true).bind fun t=>if t then(some ([],false))else((df open1 (i64.wrap ((open1.length:Int)-r)) (open1.length:Int)).bind fun y=>p6 (oM tl) i e1 all open1 r y 0 (i:Int) ([(-1),(-1)]))
def xc(e:au):Option ((List Int)×Bool):=oM e.j' 0 ([]:List Int) ([]:List Int)
def qL(e:au):Option Int:=(xc e).bind fun r=>if(!r.2)then(some 200)else(some 0)
def fZ(i:Nat)(y:List Int):Nat->Nat->(List Int)->Int->Option (List Int)
  |0,i1,s1,k=>(df s1 k (s1.length:Int)).bind fun y1=>(some (s1.take k.toNat++List.replicate y1.length 0)).bind fun cl=>(df cl 0 k).bind fun y2=>some y2
  |k2+1,i1,s1,k=>(CY s1 (i:Int) y.length (i1:Int)).bind fun e3=>(CY s1 (i:Int) y.length (i64.wrap ((i1:Int)-1))).bind fun e4=>if(e3 !=e4)then((CY s1 (i:Int) y.length (i1:Int)).bind fun e5=>(cO s1 k).bind fun e6=>(some (s1.set k.toNat e5)).bind fun st=>(fZ i y k2) (i1+1) st (i64.wrap (k+1)))else((fZ i y k2) (i1+1) s1 k)
def ir(s:(List Int)):List Int->Nat->Option (List Int)
  |[],i=>some s
  |e::tl,i=>(cO s (i64.wrap ((i:Int)-1))).bind fun e1=>if(e==e1)then((df s (i:Int) (s.length:Int)).bind fun y=>fZ i y (y.length-1) 1 s (i:Int))else((ir s tl) (i+1))
def nR(s:(List Int)):Option (List Int):=if(decide ((s.length:Int)<2))then(some s)else(ir s (s.drop (1)) 1)
def mV:List av->(List Int)->Option (List Int)
  |[],out=>(KQ out).bind fun zr=>(nR zr).bind fun r1=>some r1
  |e1::tl,out=>if(e1.Tag==2)then((app out ([e1.X'])).bind fun L'=>(mV tl) L')else((mV tl) out)
def rm(e:au):Option (List Int):=(qL e).bind fun r=>if(r !=0)then(some ([]:List Int))else(mV e.j' ([]:List Int))
def dG(s:(List Int)):Option (List Int):=(app ([]:List Int) s).bind fun x=>some x
def ud(stack:(List Int))(k:Int):Option ((List Int)×(List Int)):=(df stack (i64.wrap ((stack.length:Int)-k)) (stack.length:Int)).bind fun y=>(dG y).bind fun r=>(df stack 0 (i64.wrap ((stack.length:Int)-k))).bind fun y1=>some (r,y1)
def p5(bad:Int)(stack:List Int):Option (Int×Int):=if(bad !=0)then(some (0,bad))else((cO stack 0).bind fun e1=>some (e1,0))
def kP(do1:(av->(List Int)->Option (Int×Int))):List av->Int->(List Int)->Option (Int×Int)
  |[],bad1,stack1=>p5 bad1 stack1
  |e2::tl,bad1,stack1=>(sI e2.Tag).bind fun r=>(ud stack1 r).bind fun r1=>(do1 e2 r1.1).bind fun r2=>if(r2.2 !=0)then(p5 r2.2 r1.2)else((app r1.2 ([r2.1])).bind fun l2=>(kP do1 tl) bad1 l2)
def tW(e:au)(do1:(av->(List Int)->Option (Int×Int))):Option (Int×Int):=kP do1 e.j' 0 ([]:List Int)
def xD(tag:Int):Option Bool:=some ((tag==4)||((decide (12<=tag))&&(decide (tag<=15))))
def p7(v':(List Int))(n:av):List Int->Int->Option (Int×Int)
  |[],own=>if(n.Tag==1)then(some (n.Value.Kind,0))else(if(n.Tag==2)then((cO v' n.X').bind fun e1=>some (e1,0))else((xD n.Tag).bind fun r=>if r then(if((own==(-1))||((own !=0)&&(own !=2)))then(some (0,201))else(some (2,0)))else(if(((n.Tag==5)||(n.Tag==22))||(n.Tag==23))then(if((own==(-1))||((own !=0)&&(own !=1)))then(some (0,201))else(some (1,0)))else(if((own==(-1))||((own !=0)&&(own !=own)))then(some (0,201))else(some (1,0))))))
  |e::tl,own=>if((e==0)||(e==own))then((p7 v' n tl) own)else(if(own==0)then((p7 v' n tl) e)else((p7 v' n tl) (-1)))
def na(v':(List Int))(n:av)(l:(List Int)):Option (Int×Int):=p7 v' n l 0
def qK(e:au)(v':(List Int)):List Int->Option (Int×Int)
 |[]=>(tW e (na v')).bind fun r2=>some (r2.1,r2.2)
 |e2::tl1=>if(decide ((v'.length:Int)<=e2))then(some (0,2))else((qK e v' tl1))
def vK(e:au)(v':(List Int)):List Int->Option (Int×Int)
 |[]=>(rm e).bind fun r1=>qK e v' r1
 |e1::tl=>if((decide (e1<0))||(decide (3<e1)))then(some (0,2))else((vK e v' tl))
def yz(e:au)(v':(List Int)):Option (Int×Int):=(qL e).bind fun r=>if(r !=0)then(some (0,r))else(vK e v' v')
def w8(e:au)(v':(List Int)):Option Bool:=(yz e v').bind fun r=>some ((r.2==0)&&((r.1==1)||(r.1==0)))
def kC(c:aV)(n:ai):Option ((List Int)×Bool):=(cO c.v' n.A).bind fun e=>(cO c.v' n.B).bind fun e1=>(mh ([e,e1])).bind fun r=>(w8 n.J' r).bind fun r1=>some (r,r1)
def js(c:aV)(n:ai):Option ((List Int)×Bool):=(cO c.v' n.A).bind fun e=>(w8 n.J' e).bind fun r=>some (e,r)
def vB(v':(List Int))(c:Int):Option Bool:=some ((decide (c<0))||(decide ((v'.length:Int)<=c)))
def yb(l:(List Int))(v':(List Int)):Option Bool:=(dL l (vB v')).bind fun r=>some (!r)
def yc(r:Int×Int)(x:Bool):Option (Int×Bool):=if x then(some (r.1,(r.2==0)))else(some (0,false))
def Dz(a1:jx)(v':(List Int)):Option (Int×Bool):=if(a1.Tag==1)then(some (2,((a1.Arg.j'.length:Int)==0)))else((yz a1.Arg v').bind fun r=>if(a1.Tag==2)then(some (2,(r.2==0)))else(if(a1.Tag==3)then(some (2,((r.2==0)&&((r.1==2)||(r.1==0)))))else(if(a1.Tag==4)then(yc r (a1.Tag==4))else(yc r (a1.Tag==5)))))
def iB(e:(List Int)):List jx->(List Int)->Bool->Option ((List Int)×Bool)
 |[],L',ok=>some (L',ok)
 |e2::tl1,L',ok=>(Dz e2 e).bind fun r1=>(app L' ([r1.1])).bind fun z_=>(iB e tl1) z_ (ok&&r1.2)
def jI(n:ai)(e:(List Int))(t:Bool):List Int->(List Int)->Option ((List Int)×Bool)
 |[],out=>iB e n.M' out t
 |e1::tl,out=>(cO e e1).bind fun e3=>(app out ([e3])).bind fun S_=>(jI n e t tl) S_
def jW(c:aV)(n:ai):Option ((List Int)×Bool):=(cO c.v' n.A).bind fun e=>(if(((decide ((n.Q'.length:Int)<=3))&&(decide ((n.M'.length:Int)<=12)))&&(decide (0<(i64.wrap ((n.Q'.length:Int)+(n.M'.length:Int))))))then((yb n.Q' e).bind fun r=>some r)else some false).bind fun t=>if(!t)then(some ([],false))else(jI n e t n.Q' ([]:List Int))
def iT(c:aV)(n:ai):List au->(List Int)->Bool->Option ((List Int)×Bool)
 |[],out,ok=>some (out,ok)
 |e::tl,out,ok=>(cO c.v' n.A).bind fun e1=>(yz e e1).bind fun r=>(app out ([r.1])).bind fun L'=>(iT c n tl) L' (ok&&(r.2==0))
def i6(c:aV)(n:ai):Option ((List Int)×Bool):=iT c n n.I' ([]:List Int) ((decide (1<=(n.I'.length:Int)))&&(decide ((n.I'.length:Int)<=16)))
def iC(c:aV)(n:ai):Option ((List Int)×Bool):=(cO c.v' n.A).bind fun e=>some (e,true)
def lz(nx:Nat->(List Int)->Bool->Option ((List Int)×Bool))(i:Nat)(e2:Int)(ok:Bool)(L':List Int):Option ((List Int)×Bool):=(if ok then((cO L' (i:Int)).bind fun e3=>some ((e3==e2)||(e2==0)))else some false).bind fun t=>nx (i+1) L' t
def ft:List Int->Nat->(List Int)->Bool->Option ((List Int)×Bool)
  |[],i,out,ok=>some (out,ok)
  |e2::tl,i,out,ok=>(cO out (i:Int)).bind fun e4=>if(e4==0)then((some (out.set (i:Int).toNat e2)).bind fun st=>lz (ft tl) i e2 ok st)else(lz (ft tl) i e2 ok out)
def jU(c:aV)(n:ai):Option ((List Int)×Bool):=(cO c.v' n.A).bind fun e=>(cO c.v' n.B).bind fun e1=>if((e.length:Int) !=(e1.length:Int))then(some ([],false))else((dG e).bind fun r=>ft e1 0 r true)
def oP(in1:(List Int))(o:kU):Option Bool:=some ((decide (o.X'<0))||(decide ((in1.length:Int)<=o.X')))
def fC(f:(kU->Option Bool)):List kU->Nat->Option Int
 |[],i=>some (-1)
 |e::tl,i=>(f e).bind fun r=>if r then(some (i:Int))else((fC f tl) (i+1))
def ln(s:(List kU))(f:(kU->Option Bool)):Option Int:=fC f s 0
def ik(s:(List kU))(f:(kU->Option Bool)):Option Bool:=(ln s f).bind fun r=>some (decide (0<=r))
def jV(c:aV)(n:ai):Option ((List Int)×Bool):=(cO c.v' n.A).bind fun e=>(if(decide ((n.R'.length:Int)<=3))then((ik n.R' (oP e)).bind fun r=>some (!r))else some false).bind fun t=>some (e,(((t&&(decide ((-1)<=n.U')))&&(decide (n.U'<=2147483647)))&&((c.v'.length:Int)==(i64.wrap ((c.D'.j'.length:Int)-1)))))
def y0(n:ai):Option Bool:=some (((((((((n.Table==0)&&((n.P'.length:Int)==0))&&(!n.Left))&&((n.J'.j'.length:Int)==0))&&((n.Q'.length:Int)==0))&&((n.M'.length:Int)==0))&&((n.I'.length:Int)==0))&&((n.R'.length:Int)==0))&&(n.U'==0))
def y5(n:ai):Option ai:=if(n.Op==1)then(some (ai.mk n.Op n.A n.B 0 ([]) n.Left n.J' n.Q' n.M' n.I' n.R' n.U'))else(if(n.Op==2)then(some (ai.mk n.Op n.A n.B n.Table n.P' false ⟨[]⟩ n.Q' n.M' n.I' n.R' n.U'))else(if(n.Op==3)then(some (ai.mk n.Op n.A n.B n.Table n.P' n.Left ⟨[]⟩ n.Q' n.M' n.I' n.R' n.U'))else(if(n.Op==4)then(some (ai.mk n.Op n.A n.B n.Table n.P' n.Left n.J' ([]) ([]) n.I' n.R' n.U'))else(if(n.Op==5)then(some (ai.mk n.Op n.A n.B n.Table n.P' n.Left n.J' n.Q' n.M' ([]) n.R' n.U'))else(if(n.Op==8)then(some (ai.mk n.Op n.A n.B n.Table n.P' n.Left n.J' n.Q' n.M' n.I' ([]) 0))else(some n))))))
def vC(x:Bool):Option Int:=if x then(some 2)else(some 1)
def zE(op:Int):Option Int:=if(op==1)then(some 0)else(if(op==2)then(vC (op==2))else(vC (op==7)))
def nM(c:aV)(i:Int):Option (Int×Bool):=(cO c.D'.j' i).bind fun e=>(zE e.Op).bind fun r=>if(r==0)then(some (i,((e.A==(-1))&&(e.B==(-1)))))else(if(r==1)then(if(((e.A !=(i64.wrap (i-1)))||(e.B !=(-1)))||(i==0))then(some (0,false))else((cO c.first e.A).bind fun e1=>some (e1,true)))else((if(!((e.B !=(i64.wrap (i-1)))||(i==0)))then((cO c.first e.B).bind fun e2=>some (e.A !=(i64.wrap (e2-1))))else some true).bind fun t=>if(t||(decide (e.A<0)))then(some (0,false))else((cO c.first e.A).bind fun e3=>some (e3,true))))
def jJ{Sg:Type}(yld:(Int×Bool)->Sg->Option (Bool×Sg))(nx:Nat->Sg->aV->Option (Sg×aV))(i:Nat)(s1:Sg)(ok1:Bool)(v':(List Int))(H_:aV):Option (Sg×aV):=(app H_.v' ([v'])).bind fun l6=>(yld ((i:Int),(ok1&&(decide ((v'.length:Int)<=16)))) s1).bind fun r2=>if((!r2.1)||(!(ok1&&(decide ((v'.length:Int)<=16)))))then(some (r2.2,({H_ with v':=l6}:aV)))else(nx (i+1) r2.2 ({H_ with v':=l6}:aV))
def gE{Sg:Type}(yld:(Int×Bool)->Sg->Option (Bool×Sg))(nx:Nat->Sg->aV->Option (Sg×aV))(i:Nat)(e2:ai)(s1:Sg)(ok:Bool)(Y_:aV):Option (Sg×aV):=if ok then((((m5 (dO (dO (dO (dO (dO (dO (dO (dO ([]:List (Int×(aV->ai->Option (((List Int)×Bool)×aV)))) 1 (fun(mc:aV) (mx:ai)=>(jr mc mx).map fun mr=>(mr,mc))) 2 (fun(mc:aV) (mx:ai)=>(kC mc mx).map fun mr=>(mr,mc))) 3 (fun(mc:aV) (mx:ai)=>(js mc mx).map fun mr=>(mr,mc))) 4 (fun(mc:aV) (mx:ai)=>(jW mc mx).map fun mr=>(mr,mc))) 5 (fun(mc:aV) (mx:ai)=>(i6 mc mx).map fun mr=>(mr,mc))) 6 (fun(mc:aV) (mx:ai)=>(iC mc mx).map fun mr=>(mr,mc))) 7 (fun(mc:aV) (mx:ai)=>(jU mc mx).map fun mr=>(mr,mc))) 8 (fun(mc:aV) (mx:ai)=>(jV mc mx).map fun mr=>(mr,mc))) e2.Op).getD (fun _ _=>none)) Y_ (e2)).bind fun r3=>jJ yld nx i s1 r3.1.2 r3.1.1 r3.2)else(jJ yld nx i s1 ok ([]) Y_)
def cm{Sg:Type}(yld:(Int×Bool)->Sg->Option (Bool×Sg)):List ai->Nat->Sg->aV->Option (Sg×aV)
  |[],i,s1,ob=>some (s1,ob)
  |e2::tl,i,s1,ob=>(if((m5 (dO (dO (dO (dO (dO (dO (dO (dO ([]:List (Int×(aV->ai->Option (((List Int)×Bool)×aV)))) 1 (fun(mc:aV) (mx:ai)=>(jr mc mx).map fun mr=>(mr,mc))) 2 (fun(mc:aV) (mx:ai)=>(kC mc mx).map fun mr=>(mr,mc))) 3 (fun(mc:aV) (mx:ai)=>(js mc mx).map fun mr=>(mr,mc))) 4 (fun(mc:aV) (mx:ai)=>(jW mc mx).map fun mr=>(mr,mc))) 5 (fun(mc:aV) (mx:ai)=>(i6 mc mx).map fun mr=>(mr,mc))) 6 (fun(mc:aV) (mx:ai)=>(iC mc mx).map fun mr=>(mr,mc))) 7 (fun(mc:aV) (mx:ai)=>(jU mc mx).map fun mr=>(mr,mc))) 8 (fun(mc:aV) (mx:ai)=>(jV mc mx).map fun mr=>(mr,mc))) e2.Op).isSome)then((y5 e2).bind fun r=>(y0 r).bind fun r1=>some r1)else some false).bind fun t=>if t then((nM ob (i:Int)).bind fun r4=>(app ob.first ([r4.1])).bind fun l7=>gE yld (cm yld tl) i e2 s1 r4.2 ({ob with first:=l7}:aV))else(gE yld (cm yld tl) i e2 s1 t ob)
def pG{Sg:Type}(c:aV)(yld:(Int×Bool)->Sg->Option (Bool×Sg))(s:Sg):Option (Sg×aV):=cm yld c.D'.j' 0 s c
def vD(c:aV):Option (ItX (Int×Bool) aV):=some (fun _=>pG c)
def tR(x:Int×Bool)(x1:Bool)(x2:Int)(p:Bool):Option (Option Nat×(Bool×Int×Bool)):=if(!x.2)then(some (some 0,(false,x.1,true)))else(some (none,(x1,x2,p)))
def sx(l:aZ):Option (aV×Int×Bool):=if((decide ((l.j'.length:Int)<1))||(decide (60<(l.j'.length:Int))))then(some ((⟨l,[],[]⟩:aV),0,false))else((vD (⟨l,[],[]⟩:aV)).bind fun it=>(it (Option Nat×(Bool×Int×Bool)) (B4 (fun x s=>tR x s.1 s.2.1 s.2.2)) (none,(false,0,false))).bind fun r=>if r.1.1.isNone then((cO r.2.first (i64.wrap ((l.j'.length:Int)-1))).bind fun e=>some (r.2,(i64.wrap ((l.j'.length:Int)-1)),(e==0)))else((isT r.1.2.2.2).bind fun _=>some (r.2,r.1.2.2.1,r.1.2.1)))
def n9(l:aZ):Option (Int×Int):=(sx l).bind fun r=>if(!r.2.2)then(some (r.2.1,230))else(some (0,0))
def gi(s:(List kU)):Option (List kU):=(app ([]:List kU) s).bind fun x=>some x
def bY(s:(List av)):Option (List av):=(app ([]:List av) s).bind fun x=>some x
def iJ(s:(List jx)):Option (List jx):=(app ([]:List jx) s).bind fun x=>some x
def di(s:(List au)):Option (List au):=(app ([]:List au) s).bind fun x=>some x
def qW:List au->Nat->ai->Option ai
 |[],i1,n4=>some n4
 |e1::tl1,i1,n4=>(cO n4.I' (i1:Int)).bind fun e2=>(bY e2.j').bind fun r6=>(some (n4.I'.set (i1:Int).toNat ({e2 with j':=r6}:au))).bind fun st=>(qW tl1) (i1+1) ({n4 with I':=st}:ai)
def qX:List jx->Nat->ai->Option ai
 |[],i,n3=>qW n3.I' 0 n3
 |e::tl,i,n3=>(cO n3.M' (i:Int)).bind fun e3=>(bY e3.Arg.j').bind fun r7=>(some (n3.M'.set (i:Int).toNat ({e3 with Arg:=({e3.Arg with j':=r7}:au)}:jx))).bind fun st1=>(qX tl) (i+1) ({n3 with M':=st1}:ai)
def qY(n2:ai):Option ai:=(dG n2.P').bind fun r=>(dG n2.Q').bind fun r1=>(gi n2.R').bind fun r2=>(bY (n2.J'.j')).bind fun r3=>(iJ n2.M').bind fun r4=>(di n2.I').bind fun r5=>qX r4 0 (⟨n2.Op,n2.A,n2.B,n2.Table,r,n2.Left,({n2.J' with j':=r3}:au),r1,r4,r5,r2,n2.U'⟩:ai)
def uc(by1:Int)(n1:ai):Option ai:=if(decide (0<=n1.B))then(qY (ai.mk n1.Op n1.A (i64.wrap (n1.B+by1)) n1.Table n1.P' n1.Left n1.J' n1.Q' n1.M' n1.I' n1.R' n1.U'))else(qY n1)
def td(n:ai)(by1:Int):Option ai:=if(decide (0<=n.A))then(uc by1 (ai.mk n.Op (i64.wrap (n.A+by1)) n.B n.Table n.P' n.Left n.J' n.Q' n.M' n.I' n.R' n.U'))else(uc by1 n)
def rh(nx:Nat->ai->aZ->aZ->Option (aZ×Int))(i:Nat)(n1:ai)(x:aZ)(out:aZ):List ai->aZ->Option (aZ×Int)
 |[],L'=>if((i:Int)==0)then(nx (i+1) (ai.mk n1.Op (i64.wrap ((L'.j'.length:Int)-1)) n1.B n1.Table n1.P' n1.Left n1.J' n1.Q' n1.M' n1.I' n1.R' n1.U') x L')else(nx (i+1) (ai.mk n1.Op n1.A (i64.wrap ((L'.j'.length:Int)-1)) n1.Table n1.P' n1.Left n1.J' n1.Q' n1.M' n1.I' n1.R' n1.U') x L')
 |e1::tl1,L'=>(td e1 (out.j'.length:Int)).bind fun r3=>(app L'.j' ([r3])).bind fun l5=>(rh nx i n1 x out tl1) ({L' with j':=l5}:aZ)
def lg:List aZ->Nat->ai->aZ->aZ->Option (aZ×Int)
 |[],i,n1,x,out=>(td n1 0).bind fun r=>(app out.j' ([r])).bind fun l2=>(n9 ({out with j':=l2}:aZ)).bind fun r1=>if(r1.2 !=0)then(some ((⟨[]⟩:aZ),r1.2))else(some (({out with j':=l2}:aZ),0))
 |e::tl,i,n1,x,out=>(n9 e).bind fun r2=>if(r2.2 !=0)then(some ((⟨[]⟩:aZ),r2.2))else(rh (lg tl) i n1 x out e.j' out)
def uw(n:ai)(l:(List aZ)):Option (aZ×Int):=lg l 0 (ai.mk n.Op (-1) (-1) n.Table n.P' n.Left n.J' n.Q' n.M' n.I' n.R' n.U') (⟨[]⟩:aZ) (⟨([]:List ai)⟩:aZ)
def HJ(n:ai)(a1:aZ)(b:aZ):Option (aZ×Int):=(uw n ([a1,b])).bind fun r=>some (r.1,r.2)
def HK(n:ai)(a1:aZ):Option (aZ×Int):=(uw n ([a1])).bind fun r=>some (r.1,r.2)
def qV(parts:(List aB))(e:Int)(l:aZ):Option (aB×Bool):=if(e !=0)then(some ((⟨⟨[]⟩,⟨0,0,0,0,[],false,⟨[]⟩,[],[],[],[],0⟩,[]⟩:aB),false))else((cO l.j' (i64.wrap ((l.j'.length:Int)-1))).bind fun e1=>some ((⟨l,e1,parts⟩:aB),true))
def gZ(n:ai)(parts:(List aB)):Option (aB×Bool):=if((parts.length:Int)==2)then((cO parts 0).bind fun e2=>(cO parts 1).bind fun e3=>(HJ n e2.D' e3.D').bind fun r=>qV parts r.2 r.1)else((cO parts 0).bind fun e4=>(HK n e4.D').bind fun r1=>qV parts r1.2 r1.1)
def d9(rec__:Option (List (Int×(aB->Bool->Option (aB×Int)))))(t:aB)(deep:Bool):Option (aB×Int):=(rec__).bind fun r=>if((m5 r t.root.Op).isSome)then((((m5 r t.root.Op)).bind fun y=>y t deep).bind fun r1=>some (r1.1,r1.2))else(some (t,0))
def gj(rec__:Option (List (Int×(aB->Bool->Option (aB×Int))))):Nat->aB->aB->Option (aB×Bool)
  |0,_,_=>none
  |n+1,t1,x=>((d9 rec__) t1 true).bind fun r=>if(r.2==0)then(some (t1,true))else(if(r.2==2)then(some (t1,false))else((gj rec__ n) r.1 x))
def pP(rec__:Option (List (Int×(aB->Bool->Option (aB×Int)))))(t:aB):Option (aB×Bool):=gj rec__ jl t (⟨⟨[]⟩,⟨0,0,0,0,[],false,⟨[]⟩,[],[],[],[],0⟩,[]⟩:aB)
def eH(f:(av->Option Bool)):List av->Nat->Option Int
 |[],i=>some (-1)
 |e::tl,i=>(f e).bind fun r=>if r then(some (i:Int))else((eH f tl) (i+1))
def jS(s:(List av))(f:(av->Option Bool)):Option Int:=eH f s 0
def fX(s:(List av))(f:(av->Option Bool)):Option Bool:=(jS s f).bind fun r=>some (decide (0<=r))
def xd(n:av):Option Bool:=(xD n.Tag).bind fun r=>some r
def th(e:au):Option Bool:=(qL e).bind fun r=>(if(r==0)then((fX e.j' xd).bind fun r1=>some (!r1))else some false).bind fun t=>some t
def rl:List au->Int->Option (Int×Int)
 |[],n=>some (n,0)
 |e::tl,n=>(qL e).bind fun r=>if(r !=0)then(some (0,r))else((rl tl) (i64.wrap (n+(e.j'.length:Int))))
def wy(l:(List au)):Option (Int×Int):=rl l 0
def vI(nx:(List av)->Option (List av))(L':List av)(n1:av):Option (List av):=(app L' ([n1])).bind fun z_=>nx z_
def vJ(out:(List av))(nx:(List av)->Option (List av))(L':List av)(n:av):Option (List av):=if(decide (0<=n.R))then(vI nx L' (av.mk n.Tag n.L (i64.wrap (n.R+(out.length:Int))) n.X' n.Value))else(vI nx L' n)
def mU(out:(List av)):List av->(List av)->Option (List av)
 |[],L'=>some L'
 |e1::tl,L'=>if(decide (0<=e1.L))then(vJ out (mU out tl) L' (av.mk e1.Tag (i64.wrap (e1.L+(out.length:Int))) e1.R e1.X' e1.Value))else(vJ out (mU out tl) L' e1)
def DI(out:(List av))(e:au):Option (List av):=mU out e.j' out
def lG(root:av):List au->Nat->(List av)->(List Int)->Option au
 |[],i,out,q_=>(cO q_ 0).bind fun e1=>(cO q_ 1).bind fun e2=>(app out ([(av.mk root.Tag e1 e2 root.X' root.Value)])).bind fun l2=>some (⟨l2⟩:au)
 |e::tl,i,out,q_=>(DI out e).bind fun r=>(cO q_ (i:Int)).bind fun e3=>(some (q_.set (i:Int).toNat (i64.wrap ((r.length:Int)-1)))).bind fun ar=>(lG root tl) (i+1) r ar
def oj(root:av)(l:(List au)):Option au:=lG root l 0 ([]:List av) ([(-1),(-1)])
def xf:List au->au->Option (au×Int)
 |[],out=>some (out,0)
 |e1::tl,out=>(oj (⟨22,0,0,0,⟨0,0,0,[]⟩⟩:av) ([out,e1])).bind fun r2=>(xf tl) r2
def vO(l:(List au)):Option (au×Int):=(wy l).bind fun r=>if(r.2 !=0)then(some ((⟨[]⟩:au),r.2))else(if((l.length:Int)==0)then(some ((⟨[]⟩:au),2))else(if(decide (1000<(i64.wrap ((i64.wrap (r.1+(l.length:Int)))-1))))then(some ((⟨[]⟩:au),3))else((cO l 0).bind fun e=>(bY e.j').bind fun r1=>(df l 1 (l.length:Int)).bind fun y=>xf y (⟨r1⟩:au))))
def mQ(t:aB)(ok:Bool):Option (aB×Int):=if(!ok)then(some (t,2))else(some (t,1))
def vN(nx:(List au)->(List Int)->Option (List au))(L':List au)(open2:List Int):Option (List au):=nx L' open2
def vM(e3:Int)(nx1:Nat->au->Option (List au))(i:Nat)(part1:au):Option (List au):=(cO part1.j' (i:Int)).bind fun e6=>if(decide (0<=e6.R))then((some (part1.j'.set (i:Int).toNat ({e6 with R:=(i64.wrap (e6.R-e3))}:av))).bind fun st=>nx1 (i+1) ({part1 with j':=st}:au))else(nx1 (i+1) part1)
def nU(nx:(List au)->(List Int)->Option (List au))(out:List au)(y:List Int)(e3:Int):List av->Nat->au->Option (List au)
  |[],i,part=>(app out ([part])).bind fun z_=>vN nx z_ y
  |e4::tl,i,part=>(cO part.j' (i:Int)).bind fun e5=>if(decide (0<=e5.L))then((some (part.j'.set (i:Int).toNat ({e5 with L:=(i64.wrap (e5.L-e3))}:av))).bind fun st1=>vM e3 (nU nx out y e3 tl) i ({part with j':=st1}:au))else(vM e3 (nU nx out y e3 tl) i part)
def lH(e:au)(r:(List Int)×Bool):Nat->(List au)->(List Int)->Option (List au)
  |0,_,_=>none
  |n+1,out,open1=>if(decide (0<(open1.length:Int)))then((cO open1 (i64.wrap ((open1.length:Int)-1))).bind fun e1=>(df open1 0 (i64.wrap ((open1.length:Int)-1))).bind fun y=>(cO e.j' e1).bind fun e2=>if(e2.Tag==22)then((app y ([e2.R,e2.L])).bind fun open3=>vN (lH e r n) out open3)else((cO r.1 e1).bind fun e3=>(df e.j' e3 (i64.wrap (e1+1))).bind fun y1=>(bY y1).bind fun r1=>nU (lH e r n) out y e3 r1 0 (⟨r1⟩:au)))else(some out)
def DL(e:au):Option (List au):=(xc e).bind fun r=>if(!r.2)then(some ([]:List au))else(lH e r jl ([]:List au) ([(i64.wrap ((e.j'.length:Int)-1))]))
def wJ(nx:Nat->au->au->Option (au×Int))(i:Nat)(x1:au)(L':au):Option (au×Int):=nx (i+1) x1 L'
def ol(by1:Int):List av->Nat->au->au->Option (au×Int)
  |[],i,x,out=>some (out,0)
  |e1::tl,i,x,out=>(cO out.j' (i:Int)).bind fun e2=>if(e2.Tag !=2)then(wJ (ol by1 tl) i x out)else(if((decide (by1<(i64.wrap (0-e2.X'))))||(decide ((i64.wrap (16-e2.X'))<=by1)))then(some ((⟨[]⟩:au),2))else((some (out.j'.set (i:Int).toNat ({e2 with X':=(i64.wrap (e2.X'+by1))}:av))).bind fun st=>wJ (ol by1 tl) i x ({out with j':=st}:au)))
def BF(e:au)(by1:Int):Option (au×Int):=(qL e).bind fun r=>if(r !=0)then(some ((⟨[]⟩:au),r))else((bY e.j').bind fun r1=>ol by1 r1 0 (⟨[]⟩:au) (⟨r1⟩:au))
def kK(left:Int)(outer:Bool):List au->(List (List au))->Option (List (List au))
  |[],to1=>some ([(ta to1 0),(ta to1 1),(ta to1 2)])
  |e::tl,to1=>(rm e).bind fun r1=>(if(!((r1.length:Int)==0))then((cO r1 (i64.wrap ((r1.length:Int)-1))).bind fun e1=>some (decide (e1<left)))else some true).bind fun t=>if t then((app (ta to1 0) ([e])).bind fun l5=>(kK left outer tl) ([l5,(ta to1 1),(ta to1 2)]))else((cO r1 0).bind fun e2=>if((decide (left<=e2))&&(!outer))then((BF e (i64.wrap (0-left))).bind fun r2=>(app (ta to1 1) ([r2.1])).bind fun l7=>(kK left outer tl) ([(ta to1 0),l7,(ta to1 2)]))else((app (ta to1 2) ([e])).bind fun l9=>(kK left outer tl) ([(ta to1 0),(ta to1 1),l9])))
def tM(cond:au)(left:Int)(outer:Bool):Option (List (List au)):=(DL cond).bind fun r=>kK left outer r ([([]:List au),([]:List au),([]:List au)])
def dE(rec__:Option (List (Int×(aB->Bool->Option (aB×Int)))))(t:aB)(by1:(List au))(deep:Bool):Option (aB×Bool):=if((by1.length:Int)==0)then(some (t,true))else((vO by1).bind fun r=>(gZ (⟨3,0,0,0,[],false,r.1,[],[],[],[],0⟩:ai) ([t])).bind fun r1=>if(r1.2&&deep)then(((pP rec__) r1.1).bind fun r2=>some (r2.1,r2.2))else(some (r1.1,r1.2)))
def o6(l:aZ):Option ((List Int)×Int):=(sx l).bind fun r=>if(!r.2.2)then(some ([],230))else((cO r.1.v' r.2.1).bind fun e=>(dG e).bind fun r1=>some (r1,0))
def j4(rec__:Option (List (Int×(aB->Bool->Option (aB×Int)))))(t:aB)(deep:Bool)(e:aB)(r1:(List (List au))):List aB->Nat->(List aB)->aB->Option (aB×Int)
  |[],i,parts,x=>(gZ (⟨2,0,0,0,[],e.root.Left,e.root.J',[],[],[],[],0⟩:ai) parts).bind fun r2=>if(!r2.2)then(some (t,2))else((cO r1 2).bind fun e5=>((dE rec__) r2.1 e5 false).bind fun r3=>(mQ r3.1 r3.2).bind fun r4=>some (r4.1,r4.2))
  |e4::tl,i,parts,x=>(cO r1 (i:Int)).bind fun e6=>((dE rec__) e4 e6 deep).bind fun r5=>if(!r5.2)then(some (t,2))else((app parts ([r5.1])).bind fun parts1=>(j4 rec__ t deep e r1 tl) (i+1) parts1 x)
def jF(rec__:Option (List (Int×(aB->Bool->Option (aB×Int)))))(t:aB)(deep:Bool):Option (aB×Int):=(cO t.parts 0).bind fun e=>(cO e.parts 0).bind fun e1=>(o6 e1.D').bind fun r=>(tM t.root.J' (r.1.length:Int) e.root.Left).bind fun r1=>(cO r1 0).bind fun e2=>(cO r1 1).bind fun e3=>if((i64.wrap ((e2.length:Int)+(e3.length:Int)))==0)then(some (t,0))else(j4 rec__ t deep e r1 e.parts 0 ([]:List aB) (⟨⟨[]⟩,⟨0,0,0,0,[],false,⟨[]⟩,[],[],[],[],0⟩,[]⟩:aB))
def zY(v:ac):Option ac:=some v
def pg(b:Bool):Option ac:=if b then(zY (ac.mk 1 1 0 []))else(zY (⟨1,0,0,[]⟩:ac))
def fH(rec__:Option (List (Int×(aB->Bool->Option (aB×Int)))))(t:aB)(deep:Bool):Option (aB×Int):=(cO t.parts 0).bind fun e=>(th t.root.J').bind fun r=>(if((t.root.J'.j'.length:Int)==1)then((cO t.root.J'.j' 0).bind fun e1=>(pg true).bind fun r1=>some (decide (e1.Value=r1)))else some false).bind fun t1=>if t1 then(some (e,1))else(if((e.root.Op==3)&&r)then((vO ([e.root.J',t.root.J'])).bind fun r2=>if(r2.2 !=0)then(some (t,0))else((cO e.parts 0).bind fun e2=>(gZ (⟨3,0,0,0,[],false,r2.1,[],[],[],[],0⟩:ai) ([e2])).bind fun r3=>(mQ r3.1 r3.2).bind fun r4=>some (r4.1,r4.2)))else((if((e.root.Op==2)&&r)then((th e.root.J').bind fun r5=>some r5)else some false).bind fun t2=>if t2 then(((jF rec__) t deep).bind fun r6=>some (r6.1,r6.2))else(some (t,0))))
def fb(f:(au->Option Bool)):List au->Nat->Option Int
 |[],i=>some (-1)
 |e::tl,i=>(f e).bind fun r=>if r then(some (i:Int))else((fb f tl) (i+1))
def kw(s:(List au))(f:(au->Option Bool)):Option Int:=fb f s 0
def fc(s:(List au))(f:(au->Option Bool)):Option Bool:=(kw s f).bind fun r=>some (decide (0<=r))
def ni(e:au):Option Bool:=(th e).bind fun r=>some (!r)
def o9(stack:(List au))(k:Int):Option ((List au)×(List au)):=(df stack (i64.wrap ((stack.length:Int)-k)) (stack.length:Int)).bind fun y=>(di y).bind fun r=>(df stack 0 (i64.wrap ((stack.length:Int)-k))).bind fun y1=>some (r,y1)
def rA(bad:Int)(stack:List au):Option (au×Int):=if(bad !=0)then(some ((⟨[]⟩:au),bad))else((cO stack 0).bind fun e1=>some (e1,0))
def gY(do1:(av->(List au)->Option (au×Int))):List av->Int->(List au)->Option (au×Int)
  |[],bad1,stack1=>rA bad1 stack1
  |e2::tl,bad1,stack1=>(sI e2.Tag).bind fun r=>(o9 stack1 r).bind fun r1=>(do1 e2 r1.1).bind fun r2=>if(r2.2 !=0)then(rA r2.2 r1.2)else((app r1.2 ([r2.1])).bind fun l2=>(gY do1 tl) bad1 l2)
def oL(e:au)(do1:(av->(List au)->Option (au×Int))):Option (au×Int):=gY do1 e.j' 0 ([]:List au)
def mF(c:(List au))(n:av)(parts:(List au)):Option (au×Int):=if(n.Tag==2)then((cO c n.X').bind fun e=>(bY e.j').bind fun r=>some ((⟨r⟩:au),0))else((oj n parts).bind fun r1=>some (r1,0))
def qo(e:au)(l:(List au)):List av->Int->Option (au×Int)
  |[],n=>if(decide (1000<n))then(some ((⟨[]⟩:au),3))else((oL e (mF l)).bind fun r2=>some (r2.1,r2.2))
  |e2::tl1,n=>if(e2.Tag==2)then((cO l e2.X').bind fun e3=>(qo e l tl1) (i64.wrap ((i64.wrap (n+1))+(i64.wrap ((e3.j'.length:Int)-1)))))else((qo e l tl1) (i64.wrap (n+1)))
def xe(e:au)(l:(List au)):List Int->au->Option (au×Int)
 |[],x=>qo e l e.j' 0
 |e1::tl,x=>if(decide ((l.length:Int)<=e1))then(some ((⟨[]⟩:au),2))else((xe e l tl) x)
def GQ(e:au)(l:(List au)):Option (au×Int):=(app ([e]) l).bind fun l2=>(wy l2).bind fun r=>if(r.2 !=0)then(some ((⟨[]⟩:au),r.2))else((rm e).bind fun r1=>xe e l r1 (⟨[]⟩:au))
def jq(t:aB)(e:aB):List au->(List au)->aB->Option (aB×Int)
  |[],items,x1=>(cO e.parts 0).bind fun e2=>(gZ (⟨5,0,0,0,[],false,⟨[]⟩,[],[],items,[],0⟩:ai) ([e2])).bind fun r1=>(mQ r1.1 r1.2).bind fun r2=>some (r2.1,r2.2)
  |e1::tl,items,x1=>(GQ e1 e.root.I').bind fun r3=>if(r3.2 !=0)then(some (t,0))else((app items ([r3.1])).bind fun items1=>(jq t e tl) items1 x1)
def iK(t:aB)(x:Bool):Option (aB×Int):=(cO t.parts 0).bind fun e=>(if(!(e.root.Op !=5))then((fc e.root.I' ni).bind fun r=>some r)else some true).bind fun t1=>if t1 then(some (t,0))else(jq t e t.root.I' ([]:List au) (⟨⟨[]⟩,⟨0,0,0,0,[],false,⟨[]⟩,[],[],[],[],0⟩,[]⟩:aB))
def lJ(t:aB)(e:aB)(has:List (Int×Bool)):List Int->Nat->aB->Option (aB×Int)
 |[],i1,x1=>some (e,1)
 |e3::tl1,i1,x1=>if(!((m5 has (i1:Int)).getD false))then(some (t,0))else((lJ t e has tl1) (i1+1) x1)
def jT(t:aB)(e:aB)(y:aB):List au->(List (Int×Bool))->Option (aB×Int)
 |[],has=>lJ t e has y.root.Q' 0 (⟨⟨[]⟩,⟨0,0,0,0,[],false,⟨[]⟩,[],[],[],[],0⟩,[]⟩:aB)
 |e2::tl,has=>(cO e2.j' 0).bind fun e4=>if(((e2.j'.length:Int)==1)&&(e4.Tag==2))then((jT t e y tl) (dO has e4.X' true))else((jT t e y tl) has)
def fT(t:aB)(e:aB)(y:aB):Option (aB×Int):=if(y.root.Op !=4)then(some (t,0))else(jT t e y e.root.I' ([]:List (Int×Bool)))
def iS(t:aB)(x:Bool):Option (aB×Int):=(cO t.parts 0).bind fun e=>if(e.root.Op==6)then(some (e,1))else(if(e.root.Op !=5)then(some (t,0))else((cO e.parts 0).bind fun e1=>if(e1.root.Op==3)then((cO e1.parts 0).bind fun e5=>fT t e e5)else(fT t e e1)))
def B0(rec__:Option (List (Int×(aB->Bool->Option (aB×Int))))):Option (List (Int×(aB->Bool->Option (aB×Int)))):=some (dO (dO (dO ([]:List (Int×(aB->Bool->Option (aB×Int)))) 3 (fH rec__)) 5 iK) 6 iS)
def cA:Nat->Option (List (Int×(aB->Bool->Option (aB×Int))))
 |0=>none
 |fu+1=>B0 (cA fu)
def ra:Option (List (Int×(aB->Bool->Option (aB×Int)))):=cA jl
def z7(x0:aB)(x1:Bool):Option (aB×Int):=d9 ra x0 x1
def s6(x0:aB):Option (aB×Bool):=pP ra x0
def kL(self__:aB->Option (aB×Bool))(t:aB):List aB->(List aB)->aB->Option (aB×Bool)
  |[],parts,x=>(gZ t.root parts).bind fun r=>if(!r.2)then(some (t,false))else((s6 r.1).bind fun r1=>some (r1.1,r1.2))
  |e::tl,parts,x=>(self__ e).bind fun r2=>if(!r2.2)then(some (t,false))else((app parts ([r2.1])).bind fun parts1=>(kL self__ t tl) parts1 x)
def g9:Nat->aB->Option (aB×Bool)
 |0,_=>none
 |fu+1,t=>if((t.parts.length:Int)==0)then(some (t,true))else(kL (g9 fu) t t.parts ([]:List aB) (⟨⟨[]⟩,⟨0,0,0,0,[],false,⟨[]⟩,[],[],[],[],0⟩,[]⟩:aB))
def vv(t:aB):Option (aB×Bool):=g9 jl t
def ri(l:aZ)(place:Int)(e:Int):Nat->Int->aZ->Option (aZ×Int)
  |0,_,_=>none
  |n+1,i,out=>if(decide (i<=place))then((cO l.j' i).bind fun e1=>(td e1 (i64.wrap (0-e))).bind fun r1=>(app out.j' ([r1])).bind fun l2=>(ri l place e n) (i64.wrap (i+1)) ({out with j':=l2}:aZ))else(some (out,0))
def nu(l:aZ)(place:Int):Option (aZ×Int):=(sx l).bind fun r=>if(!r.2.2)then(some ((⟨[]⟩:aZ),230))else(if((decide (place<0))||(decide ((l.j'.length:Int)<=place)))then(some ((⟨[]⟩:aZ),2))else((cO r.1.first place).bind fun e=>ri l place e jl e (⟨([]:List ai)⟩:aZ)))
def fI(self__:aZ->Option aB)(l:aZ)(e:ai):Nat->Nat->aB->Option aB
  |0,i,t=>some t
  |k1+1,i,t=>(cO ([e.A,e.B]) (i:Int)).bind fun e2=>if(decide (0<=e2))then((nu l e2).bind fun r=>(self__ r.1).bind fun r1=>(app t.parts ([r1])).bind fun l2=>(fI self__ l e k1) (i+1) ({t with parts:=l2}:aB))else((fI self__ l e k1) (i+1) t)
def lV:Nat->aZ->Option aB
 |0,_=>none
 |fu+1,l=>(cO l.j' (i64.wrap ((l.j'.length:Int)-1))).bind fun e=>fI (lV fu) l e 2 0 (⟨l,e,([]:List aB)⟩:aB)
def wE(l:aZ):Option aB:=lV jl l
def oX(l:aZ):Option (aZ×Int):=(n9 l).bind fun r=>if(r.2 !=0)then(some ((⟨[]⟩:aZ),r.2))else((wE l).bind fun r1=>(vv r1).bind fun r2=>if(!r2.2)then(some (l,0))else(some (r2.1.D',0)))
def uJ(l:aZ):Option (aZ×Bool×Int):=(n9 l).bind fun r=>if(r.2 !=0)then(some ((⟨[]⟩:aZ),false,r.2))else((wE l).bind fun r1=>(z7 r1 false).bind fun r2=>if(r2.2 !=1)then(some (l,false,0))else(some (r2.1.D',true,0)))
def Ab(nx1:au->Option au)(L':au)(n1:av):Option au:=(app L'.j' ([n1])).bind fun l5=>nx1 ({L' with j':=l5}:au)
def Ac(out:au)(nx1:au->Option au)(L':au)(n:av):Option au:=if(decide (0<=n.R))then(Ab nx1 L' (av.mk n.Tag n.L (i64.wrap (n.R+(out.j'.length:Int))) n.X' n.Value))else(Ab nx1 L' n)
def rb(nx:Nat->av->au->Option au)(i:Nat)(lU:av)(out:au):List av->au->Option au
 |[],L'=>if((i:Int)==0)then(nx (i+1) (av.mk lU.Tag (i64.wrap ((L'.j'.length:Int)-1)) lU.R lU.X' lU.Value) L')else(nx (i+1) (av.mk lU.Tag lU.L (i64.wrap ((L'.j'.length:Int)-1)) lU.X' lU.Value) L')
 |e1::tl1,L'=>if(decide (0<=e1.L))then(Ac out (rb nx i lU out tl1) L' (av.mk e1.Tag (i64.wrap (e1.L+(out.j'.length:Int))) e1.R e1.X' e1.Value))else(Ac out (rb nx i lU out tl1) L' e1)
def rd:List au->Nat->av->au->Option au
 |[],i,lU,out=>(app out.j' ([lU])).bind fun l2=>some ({out with j':=l2}:au)
 |e::tl,i,lU,out=>rb (rd tl) i lU out e.j' out
def sm(root:av)(l:(List au)):Option au:=rd l 0 (av.mk root.Tag (-1) (-1) root.X' root.Value) (⟨([]:List av)⟩:au)
def Ol(n:Int):Option ac:=some (⟨2,n,0,[]⟩:ac)
def zF(col:Int)(n:Int):Option au:=(sm (⟨2,0,0,col,⟨0,0,0,[]⟩⟩:av) ([])).bind fun r=>(Ol n).bind fun r1=>(sm (⟨1,0,0,0,r1⟩:av) ([])).bind fun r2=>(sm (⟨16,0,0,0,⟨0,0,0,[]⟩⟩:av) ([r,r2])).bind fun r3=>some r3
def CT:Option aZ:=(zF 0 1).bind fun r=>(zF 1 2).bind fun r1=>(sm (⟨22,0,0,0,⟨0,0,0,[]⟩⟩:av) ([r,r1])).bind fun r2=>(sm (⟨2,0,0,0,⟨0,0,0,[]⟩⟩:av) ([])).bind fun r3=>(sm (⟨2,0,0,1,⟨0,0,0,[]⟩⟩:av) ([])).bind fun r4=>(sm (⟨16,0,0,0,⟨0,0,0,[]⟩⟩:av) ([r3,r4])).bind fun r5=>some (⟨[(⟨1,(-1),(-1),0,[2],false,⟨[]⟩,[],[],[],[],0⟩:ai),(⟨1,(-1),(-1),1,[2],false,⟨[]⟩,[],[],[],[],0⟩:ai),(⟨2,0,1,0,[],false,r5,[],[],[],[],0⟩:ai),(⟨3,2,(-1),0,[],false,r2,[],[],[],[],0⟩:ai)]⟩:aZ)
def Aa(b:au):List av->Nat->Option Bool
 |[],i=>some true
 |e::tl,i=>(cO b.j' (i:Int)).bind fun e1=>if(!decide (e=e1))then(some false)else((Aa b tl) (i+1))
def Lq(a1:au)(b:au):Option Bool:=if((a1.j'.length:Int) !=(b.j'.length:Int))then(some false)else(Aa b a1.j' 0)
def CS:Option Bool:=(CT).bind fun r=>(oX r).bind fun r1=>(CT).bind fun r2=>(uJ r2).bind fun r3=>(if((((r1.2==0)&&(r3.2.2==0))&&r3.2.1)&&((r1.1.j'.length:Int)==5))then((cO r1.1.j' 1).bind fun e=>some (e.Op==3))else some false).bind fun t=>(if t then((cO r1.1.j' 3).bind fun e1=>some (e1.Op==3))else some false).bind fun t1=>(if t1 then((cO r1.1.j' 4).bind fun e2=>some (e2.Op==2))else some false).bind fun t2=>(if t2 then((cO r1.1.j' 3).bind fun e3=>(zF 0 2).bind fun r4=>(Lq e3.J' r4).bind fun r5=>some r5)else some false).bind fun t3=>some t3
def tI(l:(List ai))(most:Int):Option (List ai):=(df l 0 (min (l.length:Int) most)).bind fun y=>(app ([]:List ai) y).bind fun x=>some x
def tS(l:(List Int))(most:Int):Option (List Int):=(df l 0 (min (l.length:Int) most)).bind fun y=>(app ([]:List Int) y).bind fun x=>some x
def vF(l:(List jx))(most:Int):Option (List jx):=(df l 0 (min (l.length:Int) most)).bind fun y=>(app ([]:List jx) y).bind fun x=>some x
def ux(l:(List au))(most:Int):Option (List au):=(df l 0 (min (l.length:Int) most)).bind fun y=>(app ([]:List au) y).bind fun x=>some x
def rF(l:(List kU))(most:Int):Option (List kU):=(df l 0 (min (l.length:Int) most)).bind fun y=>(app ([]:List kU) y).bind fun x=>some x
def tJ(l:(List av))(most:Int):Option (List av):=(df l 0 (min (l.length:Int) most)).bind fun y=>(app ([]:List av) y).bind fun x=>some x
def pU:List av->Nat->au->Option au
 |[],i,out=>some out
 |e1::tl,i,out=>(cO out.j' (i:Int)).bind fun e2=>(df e2.Value.S 0 (min (e2.Value.S.length:Int) 41)).bind fun y=>(some (out.j'.set (i:Int).toNat ({e2 with Value:=({e2.Value with S:=y}:ac)}:av))).bind fun st=>(pU tl) (i+1) ({out with j':=st}:au)
def uO(e:au):Option au:=(tJ e.j' 60).bind fun r=>pU r 0 (⟨r⟩:au)
def te(nx:Nat->aZ->Option aZ)(i:Nat)(out:aZ):List au->Nat->ai->Option aZ
 |[],i2,n1=>(uO n1.J').bind fun r6=>(some (out.j'.set (i:Int).toNat ({({({n1 with J':=r6}:ai)with M':=n1.M'}:ai)with I':=n1.I'}:ai))).bind fun st=>nx (i+1) ({out with j':=st}:aZ)
 |e4::tl2,i2,n1=>(cO n1.I' (i2:Int)).bind fun e5=>(cO n1.I' (i2:Int)).bind fun e6=>(uO e6).bind fun r7=>(some (n1.I'.set (i2:Int).toNat r7)).bind fun st1=>(te nx i out tl2) (i2+1) ({n1 with I':=st1}:ai)
def tf(nx:Nat->aZ->Option aZ)(i:Nat)(out:aZ):List jx->Nat->ai->Option aZ
 |[],i1,n=>te nx i out n.I' 0 n
 |e3::tl1,i1,n=>(cO n.M' (i1:Int)).bind fun e7=>(cO n.M' (i1:Int)).bind fun e8=>(uO e8.Arg).bind fun r8=>(some (n.M'.set (i1:Int).toNat ({e8 with Arg:=r8}:jx))).bind fun st2=>(tf nx i out tl1) (i1+1) ({n with M':=st2}:ai)
def o7:List ai->Nat->aZ->Option aZ
 |[],i,out=>some out
 |e::tl,i,out=>(cO out.j' (i:Int)).bind fun e1=>(cO out.j' (i:Int)).bind fun e2=>(tS e2.P' 6).bind fun r1=>(tS e2.Q' 6).bind fun r2=>(vF e2.M' 14).bind fun r3=>(ux e2.I' 17).bind fun r4=>(rF e2.R' 5).bind fun r5=>tf (o7 tl) i out r3 0 (⟨e2.Op,e2.A,e2.B,e2.Table,r1,e2.Left,e2.J',r2,r3,r4,r5,e2.U'⟩:ai)
def DA(l:aZ):Option aZ:=(tI l.j' 61).bind fun r=>o7 r 0 (⟨r⟩:aZ)
def vE(l:(List (List (List ac))))(most:Int):Option (List (List (List ac))):=(df l 0 (min (l.length:Int) most)).bind fun y=>(app ([]:List (List (List ac))) y).bind fun x=>some x
def tH(l:(List (List ac)))(most:Int):Option (List (List ac)):=(df l 0 (min (l.length:Int) most)).bind fun y=>(app ([]:List (List ac)) y).bind fun x=>some x
def tG(l:(List ac))(most:Int):Option (List ac):=(df l 0 (min (l.length:Int) most)).bind fun y=>(app ([]:List ac) y).bind fun x=>some x
def rj(nx1:(List (List ac))->Option da)(rows:List (List ac)):Nat->Nat->(List ac)->Option da
 |0,i2,own=>(app rows ([own])).bind fun rows1=>nx1 rows1
 |k1+1,i2,own=>(cO own (i2:Int)).bind fun e3=>(df e3.S 0 (min (e3.S.length:Int) 41)).bind fun y=>(some (own.set (i2:Int).toNat ({e3 with S:=y}:ac))).bind fun st=>(rj nx1 rows k1) (i2+1) st
def oc(nx:da->Option da)(out:da):List (List ac)->(List (List ac))->Option da
 |[],rows=>(app out.Tables ([rows])).bind fun l4=>nx ({out with Tables:=l4}:da)
 |e1::tl1,rows=>(tG e1 17).bind fun r2=>rj (oc nx out tl1) rows r2.length 0 r2
def od:List (List (List ac))->da->Option da
 |[],out=>some out
 |e::tl,out=>(tH e 13).bind fun r1=>oc (od tl) out r1 ([]:List (List ac))
def Bv(b:da):Option da:=(vE b.Tables 5).bind fun r=>od r (⟨([]:List (List (List ac)))⟩:da)
def p9(v':(List Int))(nx:Option Bool):List ac->Nat->Option Bool
  |[],i1=>nx
  |e1::tl1,i1=>(o3 e1).bind fun r=>(if(!(r !=0))then((if(e1.Kind !=0)then((cO v' (i1:Int)).bind fun e2=>some (e1.Kind !=e2))else some false).bind fun t1=>some t1)else some true).bind fun t=>if t then(some false)else((p9 v' nx tl1) (i1+1))
def qa(v':(List Int)):List (List ac)->Option Bool
 |[]=>some true
 |e::tl=>if((e.length:Int) !=(v'.length:Int))then(some false)else(p9 v' (qa v' tl) e 0)
def xh(rows:(List (List ac)))(v':(List Int)):Option Bool:=if(decide (12<(rows.length:Int)))then(some false)else(qa v' rows)
def sO(b:da):List ai->Option Bool
  |[]=>some true
  |e::tl=>(if(e.Op==1)then((if(!(decide ((b.Tables.length:Int)<=e.Table)))then((cO b.Tables e.Table).bind fun e1=>(xh e1 e.P').bind fun r1=>some (!r1))else some true).bind fun t1=>some t1)else some false).bind fun t=>if t then(some false)else((sO b tl))
def zP(l:aZ)(b:da):Option Bool:=(n9 l).bind fun r=>if(r.2 !=0)then(some false)else(sO b l.j')
def oZ(r:fO)(n:ai):Option ((List (List ac))×Int):=(cO r.Base.Tables n.Table).bind fun e=>some (e,0)
def lr(s:List ac):Option (List ac):=some s
def lu(n:Int):Option (List ac):=if(decide (0<(i64.wrap (n-(i64.wrap (0-0))))))then((gt0 (i64.wrap (n-(i64.wrap (0-0))))).bind fun _=>(rQ (i64.wrap (n-(i64.wrap (0-0)))) (⟨0,0,0,[]⟩:ac)).bind fun mk=>(df mk 0 0).bind fun y=>lr y)else(lr ([]:List ac))
def j3(n:Int):Option (List ac):=if(decide (n<0))then(none)else(lu n)
def iw:List (List ac)->(List ac)->Option (List ac)
 |[],V'=>some V'
 |e1::tl1,V'=>(app V' e1).bind fun f_=>(iw tl1) f_
def iy(slices:(List (List ac))):List (List ac)->Int->Option (List ac)
 |[],size=>(j3 size).bind fun r=>iw slices r
 |e::tl,size=>if(decide ((i64.wrap (size+(e.length:Int)))<0))then(none)else((iy slices tl) (i64.wrap (size+(e.length:Int))))
def fi(slices:(List (List ac))):Option (List ac):=iy slices slices 0
def jh{Sg:Type}(yld:(Int×(List ac))->Sg->Option (Bool×Sg))(nx:Nat->Sg->Option Sg)(i:Nat)(e2:(List ac)):List (List ac)->Sg->Option Sg
 |[],s2=>nx (i+1) s2
 |e4::tl1,s2=>(fi ([e2,e4])).bind fun r=>(yld ((i:Int),r) s2).bind fun r1=>if(!r1.1)then(some r1.2)else((jh yld nx i e2 tl1) r1.2)
def fK{Sg:Type}(b:(List (List ac)))(yld:(Int×(List ac))->Sg->Option (Bool×Sg)):List (List ac)->Nat->Sg->Option Sg
 |[],i,s1=>some s1
 |e2::tl,i,s1=>jh yld (fK b yld tl) i e2 b s1
def p8{Sg:Type}(a1:(List (List ac)))(b:(List (List ac)))(yld:(Int×(List ac))->Sg->Option (Bool×Sg))(s:Sg):Option Sg:=fK b yld a1 0 s
def BL(a1:(List (List ac)))(b:(List (List ac))):Option (It (Int×(List ac))):=some (fun _=>p8 a1 b)
def po(do1:(ac->ac->Option (ac×Int)))(a1:ac)(b:ac):Option (ac×Int):=(do1 b a1).bind fun r=>some (r.1,r.2)
def I0(do1:(ac->ac->Option (ac×Int))):Option (ac->ac->Option (ac×Int)):=some (po do1)
def uj:Option ac:=some (⟨0,0,0,[]⟩:ac)
def mX:List ac->Option Int
 |[]=>some 0
 |e::tl=>(o3 e).bind fun r=>if(r !=0)then(some r)else((mX tl))
def uF(l:(List ac)):Option Int:=mX l
def om:List Int->Option Int
 |[]=>some 0
 |e::tl=>if(e !=0)then(some e)else((om tl))
def uB(vals:(List Int)):Option Int:=om vals
def tZ(p:Int):Option Bool:=some (p !=p)
def o0(p:Int)(y:Int):Option Int:=(tZ p).bind fun r=>(tZ y).bind fun r1=>if r then(if r1 then(some 0)else(some (-1)))else(if r1 then(some 1)else(if(decide (p<y))then(some (-1))else(if(decide (y<p))then(some 1)else(some 0))))
def qZ(p:Int):Option Bool:=some (p !=p)
def nl(p:Int)(y:Int):Option Int:=(qZ p).bind fun r=>(qZ y).bind fun r1=>if r then(if r1 then(some 0)else(some (-1)))else(if r1 then(some 1)else(if(decide (p<y))then(some (-1))else(if(decide (y<p))then(some 1)else(some 0))))
def mD(a1:Fy)(b:Fy):Option Int:=some (aeI a1 b)
def xx(a1:Fy)(b:Fy):Option Int:=(mD a1 b).bind fun r=>some r
def q6(a1:ac)(b:ac):Option Int:=(qi a1).bind fun r=>(if(!(!r))then((qi b).bind fun r1=>some (!r1))else some true).bind fun t=>if t then(some 0)else((o0 a1.Kind b.Kind).bind fun r2=>(nl a1.N b.N).bind fun r3=>(xx a1.S b.S).bind fun r4=>(uB ([r2,r3,r4])).bind fun r5=>some r5)
def wh(a1:ac)(b:ac)(is1:(Int->Option Bool)):Option (ac×Int):=(uF ([a1,b])).bind fun r=>if(r !=0)then(some ((⟨0,0,0,[]⟩:ac),r))else(if(((a1.Kind==4)||(b.Kind==4))||((!((a1.Kind==0)||(b.Kind==0)))&&(a1.Kind !=b.Kind)))then(some ((⟨0,0,0,[]⟩:ac),2))else(if((a1.Kind==0)||(b.Kind==0))then((uj).bind fun r1=>some (r1,0))else((q6 a1 b).bind fun r2=>(is1 r2).bind fun r3=>(pg r3).bind fun r4=>some (r4,0))))
def Ga(c:Int):Option Bool:=some (decide (c<0))
def rW(a1:ac)(b:ac):Option (ac×Int):=(wh a1 b Ga).bind fun r=>some (r.1,r.2)
def qJ(do1:(ac->Option (ac×Int)))(a1:ac)(x:ac):Option (ac×Int):=(do1 a1).bind fun r=>some (r.1,r.2)
def Fu(do1:(ac->Option (ac×Int))):Option (ac->ac->Option (ac×Int)):=some (qJ do1)
def sZ(n:Int):Option ac:=some (⟨2,n,0,[]⟩:ac)
def nW(kind:Int):List ac->Int->Option Int
  |[],e=>some e
  |e1::tl,e=>(o3 e1).bind fun r=>if(r !=0)then(some 120)else(if((e1.Kind !=0)&&(e1.Kind !=kind))then((nW kind tl) 2)else((nW kind tl) e))
def uT(kind:Int)(l:(List ac)):Option Int:=nW kind l 0
def xk(a1:ac)(b:ac)(to1:(Int->Int->Option (Int×Bool))):Option (ac×Int):=(uT 2 ([a1,b])).bind fun r=>if(r !=0)then(some ((⟨0,0,0,[]⟩:ac),r))else(if((a1.Kind==0)||(b.Kind==0))then((uj).bind fun r1=>some (r1,0))else((to1 a1.N b.N).bind fun r2=>if(!r2.2)then(some ((⟨0,0,0,[]⟩:ac),140))else((sZ r2.1).bind fun r3=>some (r3,0))))
def uU(a1:Int)(b:Int):Option (Int×Bool):=some ((i64.wrap (a1-b)),decide (0<=(nV .and .i64 (nV .xor .i64 a1 b) (nV .xor .i64 a1 (i64.wrap (a1-b))))))
def AS(a1:ac)(b:ac):Option (ac×Int):=(xk a1 b uU).bind fun r=>some (r.1,r.2)
def DP(a1:ac):Option (ac×Int):=(sZ 0).bind fun r=>(AS r a1).bind fun r1=>some (r1.1,r1.2)
def Cs(v:ac):Option Int:=if(v.Kind==0)then(some 1)else(some (i64.wrap (2*v.N)))
def pJ(to1:((List Int)->Option Int)):List ac->(List Int)->ac->Option (ac×Int)
  |[],n,x=>(to1 n).bind fun r1=>(cO gv0 r1).bind fun e1=>some (e1,0)
  |e::tl,n,x=>if(decide (1<e.Kind))then(some ((⟨0,0,0,[]⟩:ac),2))else((Cs e).bind fun r2=>(app n ([r2])).bind fun n1=>(pJ to1 tl) n1 x)
def rR(to1:((List Int)->Option Int))(l:(List ac)):Option (ac×Int):=(uF l).bind fun r=>if(r !=0)then(some ((⟨0,0,0,[]⟩:ac),r))else(pJ to1 l ([]:List Int) (⟨0,0,0,[]⟩:ac))
def IA(l:(List Int)):Option Int:=(cO l 0).bind fun e=>some (i64.wrap (2-e))
def wi(a1:ac):Option (ac×Int):=(rR IA ([a1])).bind fun r=>some (r.1,r.2)
def sJ(is1:Bool)(a1:ac)(x:ac):Option (ac×Int):=(pg ((a1.Kind==0)==is1)).bind fun r=>some (r,0)
def HW(is1:Bool):Option (ac->ac->Option (ac×Int)):=some (sJ is1)
def xl(a1:Int)(b:Int):Option (Int×Bool):=some ((i64.wrap (a1+b)),decide (0<=(nV .and .i64 (nV .xor .i64 a1 (i64.wrap (a1+b))) (nV .xor .i64 b (i64.wrap (a1+b))))))
def Ic(a1:ac)(b:ac):Option (ac×Int):=(xk a1 b xl).bind fun r=>some (r.1,r.2)
def xA(p:Int)(y:Int):Option (Int×Int):=some ((u64.wrap ((u64.wrap ((u64.wrap (((p).fdiv (2^(min (Int.toNat 32) u64.bits)))*((y).fdiv (2^(min (Int.toNat 32) u64.bits)))))+(((u64.wrap ((u64.wrap (((p).fdiv (2^(min (Int.toNat 32) u64.bits)))*(nV .and .u64 y 4294967295)))+(((u64.wrap ((nV .and .u64 p 4294967295)*(nV .and .u64 y 4294967295)))).fdiv (2^(min (Int.toNat 32) u64.bits)))))).fdiv (2^(min (Int.toNat 32) u64.bits)))))+(((u64.wrap ((nV .and .u64 (u64.wrap ((u64.wrap (((p).fdiv (2^(min (Int.toNat 32) u64.bits)))*(nV .and .u64 y 4294967295)))+(((u64.wrap ((nV .and .u64 p 4294967295)*(nV .and .u64 y 4294967295)))).fdiv (2^(min (Int.toNat 32) u64.bits))))) 4294967295)+(u64.wrap ((nV .and .u64 p 4294967295)*((y).fdiv (2^(min (Int.toNat 32) u64.bits)))))))).fdiv (2^(min (Int.toNat 32) u64.bits))))),(u64.wrap (p*y)))
def uD(n:Int):Option Int:=if(decide (n<0))then(some (u64.wrap (0-(u64.wrap n))))else(some (u64.wrap n))
def vR(u:Int)(below:Bool):Option (Int×Bool):=if below then(some ((i64.wrap (u64.wrap (0-u))),decide (u<=9223372036854775808)))else(some ((i64.wrap u),decide (u<=9223372036854775807)))
def uV(a1:Int)(b:Int):Option (Int×Bool):=(uD a1).bind fun r=>(uD b).bind fun r1=>(xA r r1).bind fun r2=>(vR r2.2 ((decide (a1<0)) !=(decide (b<0)))).bind fun r3=>some (r3.1,(r3.2&&(r2.1==0)))
def Ia(a1:ac)(b:ac):Option (ac×Int):=(xk a1 b uV).bind fun r=>some (r.1,r.2)
def uW(a1:Int)(b:Int):Option (Int×Bool):=if(b==0)then(some (0,false))else((uD a1).bind fun r=>(uD b).bind fun r1=>(nz r1).bind fun _=>(vR (u64.wrap ((r).tdiv r1)) ((decide (a1<0)) !=(decide (b<0)))).bind fun r2=>some (r2.1,r2.2))
def Ib(a1:ac)(b:ac):Option (ac×Int):=(xk a1 b uW).bind fun r=>some (r.1,r.2)
def Ev(c:Int):Option Bool:=some (c==0)
def wT(a1:ac)(b:ac):Option (ac×Int):=(wh a1 b Ev).bind fun r=>some (r.1,r.2)
def zb(do1:(ac->ac->Option (ac×Int)))(a1:ac)(b:ac):Option (ac×Int):=(do1 a1 b).bind fun r=>if(r.2 !=0)then(some (r.1,r.2))else((wi r.1).bind fun r1=>some (r1.1,r1.2))
def GP(do1:(ac->ac->Option (ac×Int))):Option (ac->ac->Option (ac×Int)):=some (zb do1)
def IB(l:(List Int)):Option Int:=(cO l 0).bind fun e=>(cO l 1).bind fun e1=>some (min e e1)
def yj(a1:ac)(b:ac):Option (ac×Int):=(rR IB ([a1,b])).bind fun r=>some (r.1,r.2)
def KG(l:(List Int)):Option Int:=(cO l 0).bind fun e=>(cO l 1).bind fun e1=>some (max e e1)
def Au(a1:ac)(b:ac):Option (ac×Int):=(rR KG ([a1,b])).bind fun r=>some (r.1,r.2)
def DK:Option (List (Int×(ac->ac->Option (ac×Int)))):=(I0 rW).bind fun r=>(Fu DP).bind fun r1=>(Fu wi).bind fun r2=>(HW true).bind fun r3=>(HW false).bind fun r4=>(GP wT).bind fun r5=>(GP r).bind fun r6=>(GP rW).bind fun r7=>some (dO (dO (dO (dO (dO (dO (dO (dO (dO (dO (dO (dO (dO (dO (dO (dO ([]:List (Int×(ac->ac->Option (ac×Int)))) 4 r1) 5 r2) 6 r3) 7 r4) 12 Ic) 13 AS) 14 Ia) 15 Ib) 16 wT) 17 r5) 18 rW) 20 r) 19 r6) 21 r7) 22 yj) 23 Au)
def jg(s:(List ac)):Option (List ac):=(app ([]:List ac) s).bind fun x=>some x
def oR(stack:(List ac))(k:Int):Option ((List ac)×(List ac)):=(df stack (i64.wrap ((stack.length:Int)-k)) (stack.length:Int)).bind fun y=>(jg y).bind fun r=>(df stack 0 (i64.wrap ((stack.length:Int)-k))).bind fun y1=>some (r,y1)
def jK(bad:Int)(stack:List ac):Option (ac×Int):=if(bad !=0)then(some ((⟨0,0,0,[]⟩:ac),bad))else((cO stack 0).bind fun e1=>some (e1,0))
def fz(do1:(av->(List ac)->Option (ac×Int))):List av->Int->(List ac)->Option (ac×Int)
  |[],bad1,stack1=>jK bad1 stack1
  |e2::tl,bad1,stack1=>(sI e2.Tag).bind fun r=>(oR stack1 r).bind fun r1=>(do1 e2 r1.1).bind fun r2=>if(r2.2 !=0)then(jK r2.2 r1.2)else((app r1.2 ([r2.1])).bind fun l2=>(fz do1 tl) bad1 l2)
def lN(e:au)(do1:(av->(List ac)->Option (ac×Int))):Option (ac×Int):=fz do1 e.j' 0 ([]:List ac)
def vL(r1:ac×Int)(no:Int):Option (ac×Int):=some (r1.1,no)
def lY(r:(List ac))(do1:(List (Int×(ac->ac->Option (ac×Int)))))(n:av)(l:(List ac)):Option (ac×Int):=if(n.Tag==1)then(some (n.Value,0))else(if(n.Tag==2)then((cO r n.X').bind fun e=>some (e,0))else((cO l 0).bind fun e1=>(cO l (i64.wrap ((l.length:Int)-1))).bind fun e2=>(((m5 do1 n.Tag)).bind fun y=>y e1 e2).bind fun r1=>if((r1.2 !=0)&&(r1.2 !=140))then(vL r1 201)else(vL r1 r1.2)))
def tk(e:au)(r:(List ac)):List Int->ac->Option (ac×Int)
  |[],x=>(DK).bind fun r3=>(lN e (lY r r3)).bind fun r4=>some (r4.1,r4.2)
  |e1::tl,x=>(if(!(decide ((r.length:Int)<=e1)))then((cO r e1).bind fun e2=>(qi e2).bind fun r5=>some (!r5))else some true).bind fun t=>if t then(some ((⟨0,0,0,[]⟩:ac),2))else((tk e r tl) x)
def yA(e:au)(r:(List ac)):Option (ac×Int):=(qL e).bind fun r1=>if(r1 !=0)then(some ((⟨0,0,0,[]⟩:ac),r1))else((rm e).bind fun r2=>tk e r r2 (⟨0,0,0,[]⟩:ac))
def Bd(a1:ac):Option Bool:=(pg true).bind fun r=>some (decide (a1=r))
def vP(e:au)(r:(List ac)):Option (Bool×Int):=(yA e r).bind fun r1=>(Bd r1.1).bind fun r2=>some (r2,r1.2)
def kF(n:ai)(x:Int×(List ac))(xs:List (List ac))(xs1:List Bool)(x1:Int)(x2:(List (List ac))):Option (Option Nat×(List (List ac)×List Bool×Int×(List (List ac)))):=(vP n.J' x.2).bind fun r3=>if(r3.2 !=0)then(some (some 0,(xs,xs1,r3.2,[])))else(if r3.1 then((cO xs1 x.1).bind fun e2=>(some (xs1.set x.1.toNat true)).bind fun st=>(app xs ([x.2])).bind fun l2=>some (none,(l2,st,x1,x2)))else(some (none,(xs,xs1,x1,x2))))
def kE(r:fO)(n:ai)(r1:(Option Nat×(List (List ac)×List Bool×Int×(List (List ac))))×Unit):List (List ac)->Nat->(List (List ac))->Option ((List (List ac))×Int)
  |[],i2,out=>some (out,0)
  |e3::tl,i2,out=>(if n.Left then((cO r1.1.2.2.1 (i2:Int)).bind fun e4=>some (!e4))else some false).bind fun t=>if t then((cO r.width n.B).bind fun e5=>(rQ e5 (⟨0,0,0,[]⟩:ac)).bind fun mk1=>(fi ([e3,mk1])).bind fun r4=>(app out ([r4])).bind fun l7=>(kE r n r1 tl) (i2+1) l7)else((kE r n r1 tl) (i2+1) out)
def nw(r:fO)(n:ai):Option ((List (List ac))×Int):=(cO r.rows n.A).bind fun e=>(cO r.rows n.B).bind fun e1=>if(decide (40000<(i64.wrap ((e.length:Int)*(e1.length:Int)))))then(some ([],3))else((rQ (e.length:Int) false).bind fun mk=>(BL e e1).bind fun it=>((itU it) (Option Nat×(List (List ac)×List Bool×Int×(List (List ac)))) (B4 (fun x s=>kF n x s.1 s.2.1 s.2.2.1 s.2.2.2)) (none,(([]:List (List ac)),mk,0,[]))).bind fun r1=>if r1.1.1.isNone then(kE r n r1 e 0 r1.1.2.1)else(some (r1.1.2.2.2.2,r1.1.2.2.2.1)))
def jv(n:ai):List (List ac)->(List (List ac))->Option ((List (List ac))×Int)
  |[],out=>some (out,0)
  |e1::tl,out=>(vP n.J' e1).bind fun r1=>if(r1.2 !=0)then(some ([],r1.2))else(if r1.1 then((app out ([e1])).bind fun L'=>(jv n tl) L')else((jv n tl) out))
def nk(r:fO)(n:ai):Option ((List (List ac))×Int):=(cO r.rows n.A).bind fun e=>jv n e ([]:List (List ac))
def wV(v:ac):Option Bool:=(o3 v).bind fun r=>some (r !=0)
def dT(f:(ac->Option Bool)):List ac->Nat->Option Int
 |[],i=>some (-1)
 |e::tl,i=>(f e).bind fun r=>if r then(some (i:Int))else((dT f tl) (i+1))
def oC(s:(List ac))(f:(ac->Option Bool)):Option Int:=dT f s 0
def jC(s:(List ac))(f:(ac->Option Bool)):Option Bool:=(oC s f).bind fun r=>some (decide (0<=r))
def ym(r:(List ac)):Option Bool:=(if(decide ((r.length:Int)<=16))then((jC r wV).bind fun r1=>some (!r1))else some false).bind fun t=>some t
def vt(nx:Int->Option Int)(e:(List (List ac)))(n:Int):List (List ac)->Option Int
 |[]=>nx (max n (e.length:Int))
 |e1::tl1=>(ym e1).bind fun r=>if(!r)then(some 150)else((vt nx e n tl1))
def o4:List (List (List ac))->Int->Option Int
 |[],n=>if(decide (8000<n))then(some 3)else(some 0)
 |e::tl,n=>vt (o4 tl) e n e
def AD(l:(List (List (List ac)))):Option Int:=o4 l 0
def zz(c:Int):Option Bool:=some (decide (c<0))
def Do(r:(List ac))(c:Int):Option Bool:=some ((decide (c<0))||(decide ((r.length:Int)<=c)))
def JN(r:(List ac))(columns:(List Int)):Option Bool:=(if(decide ((columns.length:Int)<=16))then((dL columns (Do r)).bind fun r1=>some (!r1))else some false).bind fun t=>some t
def vu(columns:(List Int)):List (List ac)->Option Int
 |[]=>some 0
 |e::tl=>(JN e columns).bind fun r2=>if(!r2)then(some 2)else((vu columns tl))
def Dp(l:(List (List ac)))(columns:(List Int)):Option Int:=(AD ([l])).bind fun r=>if(r !=0)then(some r)else((if(!(decide (16<(columns.length:Int))))then((dL columns zz).bind fun r1=>some r1)else some true).bind fun t=>if t then(some 2)else(vu columns l))
def dH(s:(List ac)):Option (List ac):=(app ([]:List ac) s).bind fun x=>some x
def q9:List (List ac)->(List (List ac))->Option (List (List ac))
 |[],out=>some out
 |e::tl,out=>(dH e).bind fun r=>(app out ([r])).bind fun L'=>(q9 tl) L'
def yO(l:(List (List ac))):Option (List (List ac)):=q9 l ([]:List (List ac))
def cr(s1:(List ac))(s2:(List ac))(cmp:(ac->ac->Option Int)):List ac->Nat->Option Int
  |[],i=>if(decide ((s1.length:Int)<(s2.length:Int)))then(some (-1))else(some 0)
  |e::tl,i=>if(decide ((s2.length:Int)<=(i:Int)))then(some 1)else((cO s2 (i:Int)).bind fun e1=>(cmp e e1).bind fun r=>if(r !=0)then(some r)else((cr s1 s2 cmp tl) (i+1)))
def dB(s1:(List ac))(s2:(List ac))(cmp:(ac->ac->Option Int)):Option Int:=cr s1 s2 cmp s1 0
def tp(p:Int):Option Bool:=some (p !=p)
def qN(p:Int)(y:Int):Option Int:=(tp p).bind fun r=>(tp y).bind fun r1=>if r then(if r1 then(some 0)else(some (-1)))else(if r1 then(some 1)else(if(decide (p<y))then(some (-1))else(if(decide (y<p))then(some 1)else(some 0))))
def tq(p:Fy):Option Bool:=some (!(p==p))
def qO(p:Fy)(y:Fy):Option Int:=(tq p).bind fun r=>(tq y).bind fun r1=>if r then(if r1 then(some 0)else(some (-1)))else(if r1 then(some 1)else(if(Op.bytesLess p y)then(some (-1))else(if(!(Op.bytesLess p y||p==y))then(some 1)else(some 0))))
def uq(a1:ac)(b:ac):Option Int:=(o0 a1.Kind b.Kind).bind fun r=>(nl a1.N b.N).bind fun r1=>(qN a1.U b.U).bind fun r2=>(qO a1.S b.S).bind fun r3=>(uB ([r,r1,r2,r3])).bind fun r4=>some r4
def uH(a1:(List ac))(b:(List ac)):Option Int:=(dB a1 b uq).bind fun r=>some r
def qk(r:(List ac)):List Int->(List ac)->Option (List ac)
 |[],out=>some out
 |e::tl,out=>(cO r e).bind fun e1=>(app out ([e1])).bind fun L'=>(qk r tl) L'
def sj(r:(List ac))(columns:(List Int)):Option (List ac):=qk r columns ([]:List ac)
def qu(columns:(List Int))(a1:(List ac))(b:(List ac)):Option Int:=(sj a1 columns).bind fun r=>(sj b columns).bind fun r1=>(uH r r1).bind fun r2=>(uH a1 b).bind fun r3=>(uB ([r2,r3])).bind fun r4=>some r4
def fV(s2:(List ac)):List ac->Nat->Option Bool
 |[],i=>some true
 |e::tl,i=>(cO s2 (i:Int)).bind fun e1=>if(!decide (e=e1))then(some false)else((fV s2 tl) (i+1))
def mq(s1:(List ac))(s2:(List ac)):Option Bool:=if((s1.length:Int) !=(s2.length:Int))then(some false)else(fV s2 s1 0)
def uI(a1:(List ac))(b:(List ac)):Option Bool:=(mq a1 b).bind fun r=>some r
def jE(columns:(List Int))(a1:(List ac))(b:(List ac)):Option Bool:=(sj a1 columns).bind fun r=>(sj b columns).bind fun r1=>(uI r r1).bind fun r2=>some r2
def q8{Sg:Type}(alike:((List ac)->(List ac)->Option Bool))(yld:(List (List ac))->Sg->Option (Bool×Sg))(nx:Sg->(List (List ac))->Option Sg)(s1:Sg)(x:(List (List ac))):Nat->Int->Option Sg
  |0,_=>none
  |n2+1,n1=>(if(decide (n1<(x.length:Int)))then((cO x 0).bind fun e2=>(cO x n1).bind fun e3=>(alike e2 e3).bind fun r=>some r)else some false).bind fun t=>if t then((q8 alike yld nx s1 x n2) (i64.wrap (n1+1)))else((df x 0 n1).bind fun y=>(yld (y) s1).bind fun r1=>if(!r1.1)then(some r1.2)else((df x n1 (x.length:Int)).bind fun y1=>nx r1.2 y1))
def nY{Sg:Type}(alike:((List ac)->(List ac)->Option Bool))(yld:(List (List ac))->Sg->Option (Bool×Sg)):Nat->Sg->(List (List ac))->Option Sg
 |0,_,_=>none
 |n+1,s1,x=>if(decide (0<(x.length:Int)))then(q8 alike yld (nY alike yld n) s1 x jl 1)else(some s1)
def Bj{Sg:Type}(l:(List (List ac)))(alike:((List ac)->(List ac)->Option Bool))(yld:(List (List ac))->Sg->Option (Bool×Sg))(s:Sg):Option Sg:=nY alike yld jl s l
def Lm(l:(List (List ac)))(alike:((List ac)->(List ac)->Option Bool)):Option (It (List (List ac))):=some (fun _=>Bj l alike)
def iI(s:(List (List ac))):Option (List (List ac)):=(app ([]:List (List ac)) s).bind fun x=>some x
def nZ(columns:(List Int))(x:(List (List ac)))(xs:List k6):Option (List k6):=(cO x 0).bind fun e=>(sj e columns).bind fun r2=>(iI x).bind fun r3=>(app xs ([(⟨r2,r3⟩:k6)])).bind fun l3=>some l3
def yP(l:(List (List ac)))(columns:(List Int)):Option ((List k6)×Int):=(Dp l columns).bind fun r=>if(r !=0)then(some ([],r))else((yO l).bind fun r1=>(Ey (fun(x:(List ac)×(List ac))=>(qu columns) x.1 x.2) r1).bind fun zr=>(Lm zr (jE columns)).bind fun it=>(it (List k6) (Ji (fun x s=>nZ columns x s)) ([]:List k6)).bind fun xs1=>some (xs1,0))
def ne(a1:jx):List (List ac)->(List ac)->Int->Option ((List ac)×Int)
  |[],out,fault=>some (out,fault)
  |e::tl,out,fault=>(yA a1.Arg e).bind fun r=>if(r.2==140)then((ne a1 tl) out r.2)else(if(r.2 !=0)then(some ([],2))else(if(r.1.Kind !=0)then((app out ([r.1])).bind fun L'=>(ne a1 tl) L' fault)else((ne a1 tl) out fault)))
def C8(a1:jx)(rows:(List (List ac))):Option ((List ac)×Int):=ne a1 rows ([]:List ac) 0
def qM(v:ac):Option Bool:=some (v.Kind !=2)
def eG(f:(ac->Option Bool)):List ac->Nat->Option Int
 |[],i=>some (-1)
 |e::tl,i=>(f e).bind fun r=>if r then(some (i:Int))else((eG f tl) (i+1))
def jR(s:(List ac))(f:(ac->Option Bool)):Option Int:=eG f s 0
def fW(s:(List ac))(f:(ac->Option Bool)):Option Bool:=(jR s f).bind fun r=>some (decide (0<=r))
def wB(v:ac):Option ac:=some (⟨4,((v.N).fdiv (2^(min (Int.toNat 63) i64.bits))),(u64.wrap v.N),[]⟩:ac)
def BS(s:ac)(t:ac):Option (ac×Int):=(Tw s.U t.U 0).bind fun r=>(Tw (u64.wrap s.N) (u64.wrap t.N) r.2).bind fun r1=>if(decide ((nV .and .i64 (nV .xor .i64 s.N (i64.wrap r1.1)) (nV .xor .i64 t.N (i64.wrap r1.1)))<0))then(some ((⟨0,0,0,[]⟩:ac),140))else(some ((⟨4,(i64.wrap r1.1),r.1,[]⟩:ac),0))
def yC(s:ac)(v:ac):Option (ac×Int):=(uT 4 ([s])).bind fun r=>(uT 2 ([v])).bind fun r1=>if((r==120)||(r1==120))then(some ((⟨0,0,0,[]⟩:ac),120))else(if((r !=0)||(r1 !=0))then(some ((⟨0,0,0,[]⟩:ac),2))else(if(v.Kind==0)then(some (s,0))else(if(s.Kind==0)then((wB v).bind fun r2=>some (r2,0))else((wB v).bind fun r3=>(BS s r3).bind fun r4=>some (r4.1,r4.2)))))
def DQ(s:ac):Option (ac×Int):=(uT 4 ([s])).bind fun r=>if(r !=0)then(some ((⟨0,0,0,[]⟩:ac),r))else(if(s.Kind==0)then(some (s,0))else((sZ (i64.wrap s.U)).bind fun r1=>(wB r1).bind fun r2=>if(decide (r2=s))then(some (r1,0))else(some ((⟨0,0,0,[]⟩:ac),140))))
def qP:List ac->ac->ac->Option (ac×Int)
 |[],x,s=>(DQ s).bind fun r1=>some (r1.1,r1.2)
 |e::tl,x,s=>(yC s e).bind fun r2=>if(r2.2 !=0)then(some (r2.1,r2.2))else((qP tl) x r2.1)
def DS(l:(List ac)):Option (ac×Int):=if(decide (1048576<(l.length:Int)))then(some ((⟨0,0,0,[]⟩:ac),3))else((uj).bind fun r=>qP l (⟨0,0,0,[]⟩:ac) r)
def dR(cmp:(ac->ac->Option Int)):List ac->ac->Option ac
 |[],m=>some m
 |e1::tl,m=>(cmp e1 m).bind fun r=>if(decide (r<0))then((dR cmp tl) e1)else((dR cmp tl) m)
def jA(p:(List ac))(cmp:(ac->ac->Option Int)):Option ac:=(cO p 0).bind fun e=>dR cmp (p.drop (1)) e
def iu(p:(List ac))(cmp:(ac->ac->Option Int)):Option ac:=if(decide ((p.length:Int)<1))then(none)else(jA p cmp)
def ql(a1:(List ac))(b:(List ac)):Option Int:=(ym a1).bind fun r=>(if(!(!r))then((ym b).bind fun r1=>some (!r1))else some true).bind fun t=>if t then(some 0)else((uH a1 b).bind fun r2=>some r2)
def lh(a1:ac)(b:ac):Option Int:=(ql ([a1]) ([b])).bind fun r=>some r
def dS(cmp:(ac->ac->Option Int)):List ac->ac->Option ac
 |[],m=>some m
 |e1::tl,m=>(cmp e1 m).bind fun r=>if(decide (0<r))then((dS cmp tl) e1)else((dS cmp tl) m)
def jB(p:(List ac))(cmp:(ac->ac->Option Int)):Option ac:=(cO p 0).bind fun e=>dS cmp (p.drop (1)) e
def iv(p:(List ac))(cmp:(ac->ac->Option Int)):Option ac:=if(decide ((p.length:Int)<1))then(none)else(jB p cmp)
def qb(a1:jx)(rows:(List (List ac))):Option (ac×Int):=if(a1.Tag==1)then((sZ (rows.length:Int)).bind fun r=>some (r,0))else((C8 a1 rows).bind fun r1=>if(r1.2==2)then(some ((⟨0,0,0,[]⟩:ac),r1.2))else((if(a1.Tag==3)then((fW r1.1 qM).bind fun r2=>some r2)else some false).bind fun t=>if t then(some ((⟨0,0,0,[]⟩:ac),2))else(if(r1.2 !=0)then(some ((⟨0,0,0,[]⟩:ac),r1.2))else(if(a1.Tag==2)then((sZ (r1.1.length:Int)).bind fun r3=>some (r3,0))else(if(a1.Tag==3)then((DS r1.1).bind fun r4=>some (r4.1,r4.2))else(if((r1.1.length:Int)==0)then(some ((⟨0,0,0,[]⟩:ac),0))else(if(a1.Tag==4)then((iu r1.1 lh).bind fun r5=>some (r5,0))else((iv r1.1 lh).bind fun r6=>some (r6,0)))))))))
def lP(nx:(List (List ac))->Option ((List (List ac))×Int))(e1:k6)(out:List (List ac)):List jx->(List ac)->Option ((List (List ac))×Int)
  |[],x=>(app out ([x])).bind fun L'=>nx L'
  |e2::tl1,x=>(qb e2 e1.Rows).bind fun r3=>if(r3.2 !=0)then(some ([],r3.2))else((app x ([r3.1])).bind fun x1=>(lP nx e1 out tl1) x1)
def iU(n:ai):List k6->(List (List ac))->Option ((List (List ac))×Int)
 |[],out=>some (out,0)
 |e1::tl,out=>(dH e1.Key).bind fun r2=>lP (iU n tl) e1 out n.M' r2
def pH(n:ai)(groups:(List k6)):Option ((List (List ac))×Int):=iU n groups ([]:List (List ac))
def mH(r:fO)(n:ai):Option ((List (List ac))×Int):=(cO r.rows n.A).bind fun e=>(yP e n.Q').bind fun r1=>if(r1.2 !=0)then(some ([],r1.2))else(if(((n.Q'.length:Int)==0)&&((r1.1.length:Int)==0))then(pH n ([(⟨[],[]⟩:k6)]))else(pH n r1.1))
def j7(nx:(List (List ac))->Option ((List (List ac))×Int))(e1:(List ac))(out:List (List ac)):List au->(List ac)->Option ((List (List ac))×Int)
  |[],y=>(app out ([y])).bind fun L'=>nx L'
  |e2::tl1,y=>(yA e2 e1).bind fun r1=>if(r1.2 !=0)then(some ([],r1.2))else((app y ([r1.1])).bind fun y1=>(j7 nx e1 out tl1) y1)
def i8z(n:ai):List (List ac)->(List (List ac))->Option ((List (List ac))×Int)
 |[],out=>some (out,0)
 |e1::tl,out=>j7 (i8z n tl) e1 out n.I' ([]:List ac)
def mG(r:fO)(n:ai):Option ((List (List ac))×Int):=(cO r.rows n.A).bind fun e=>i8z n e ([]:List (List ac))
def yN(l:(List (List ac))):Option (List (List ac)):=(yO l).bind fun r=>(Ey (fun(x:(List ac)×(List ac))=>uH x.1 x.2) r).bind fun zr=>some zr
def dh(eq:((List ac)->(List ac)->Option Bool))(i:Nat)(y:List (List ac)):Nat->Nat->(List (List ac))->Int->Option (List (List ac))
  |0,i1,s1,k=>(df s1 k (s1.length:Int)).bind fun y1=>(some (s1.take k.toNat++List.replicate y1.length ([]))).bind fun cl=>(df cl 0 k).bind fun y2=>some y2
  |k2+1,i1,s1,k=>(CY s1 (i:Int) y.length (i1:Int)).bind fun e3=>(CY s1 (i:Int) y.length (i64.wrap ((i1:Int)-1))).bind fun e4=>(eq e3 e4).bind fun r1=>if(!r1)then((CY s1 (i:Int) y.length (i1:Int)).bind fun e5=>(cO s1 k).bind fun e6=>(some (s1.set k.toNat e5)).bind fun st=>(dh eq i y k2) (i1+1) st (i64.wrap (k+1)))else((dh eq i y k2) (i1+1) s1 k)
def dU(s:(List (List ac)))(eq:((List ac)->(List ac)->Option Bool)):List (List ac)->Nat->Option (List (List ac))
  |[],i=>some s
  |e::tl,i=>(cO s (i64.wrap ((i:Int)-1))).bind fun e1=>(eq e e1).bind fun r=>if r then((df s (i:Int) (s.length:Int)).bind fun y=>dh eq i y (y.length-1) 1 s (i:Int))else((dU s eq tl) (i+1))
def iz(s:(List (List ac)))(eq:((List ac)->(List ac)->Option Bool)):Option (List (List ac)):=if(decide ((s.length:Int)<2))then(some s)else(dU s eq (s.drop (1)) 1)
def xV(l:(List (List ac))):Option ((List (List ac))×Int):=(AD ([l])).bind fun r=>if(r !=0)then(some ([],r))else((yN l).bind fun r1=>(iz r1 uI).bind fun r2=>some (r2,0))
def lQ(r:fO)(n:ai):Option ((List (List ac))×Int):=(cO r.rows n.A).bind fun e=>(xV e).bind fun r1=>some (r1.1,r1.2)
def mo(s:List (List ac)):Option (List (List ac)):=some s
def mp(n:Int):Option (List (List ac)):=if(decide (0<(i64.wrap (n-(i64.wrap (0-0))))))then((gt0 (i64.wrap (n-(i64.wrap (0-0))))).bind fun _=>(rQ (i64.wrap (n-(i64.wrap (0-0)))) ([])).bind fun mk=>(df mk 0 0).bind fun y=>mo y)else(mo ([]:List (List ac)))
def kV(n:Int):Option (List (List ac)):=if(decide (n<0))then(none)else(mp n)
def je:List (List (List ac))->(List (List ac))->Option (List (List ac))
 |[],V'=>some V'
 |e1::tl1,V'=>(app V' e1).bind fun f_=>(je tl1) f_
def jf(slices:(List (List (List ac)))):List (List (List ac))->Int->Option (List (List ac))
 |[],size=>(kV size).bind fun r=>je slices r
 |e::tl,size=>if(decide ((i64.wrap (size+(e.length:Int)))<0))then(none)else((jf slices tl) (i64.wrap (size+(e.length:Int))))
def io(slices:(List (List (List ac)))):Option (List (List ac)):=jf slices slices 0
def ov(r:fO)(n:ai):Option ((List (List ac))×Int):=(cO r.rows n.A).bind fun e=>(cO r.rows n.B).bind fun e1=>(io ([e,e1])).bind fun r1=>some (r1,0)
def sK(nx:Option Int)(n:Int):Option Int:=if(n !=0)then(some n)else(nx)
def nd(a1:(List ac))(b:(List ac)):List kU->Option Int
 |[]=>(ql a1 b).bind fun r=>some r
 |e::tl=>(cO a1 e.X').bind fun e1=>(cO b e.X').bind fun e2=>(lh e1 e2).bind fun r1=>if e.Q_ then(sK (nd a1 b tl) (i64.wrap (0-r1)))else(sK (nd a1 b tl) r1)
def sL(order:(List kU))(a1:(List ac))(b:(List ac)):Option Int:=nd a1 b order
def H2(order:(List kU)):Option ((List ac)->(List ac)->Option Int):=some (sL order)
def tm(L':List (List ac)):Option (List (List ac)):=some L'
def ou(order:(List kU))(limit:Int):List (List ac)->(List (List ac))->Option (List (List ac))
  |[],out=>(H2 order).bind fun r=>(Ey (fun(x:(List ac)×(List ac))=>r x.1 x.2) out).bind fun zr=>if((decide (0<=limit))&&(decide (limit<(zr.length:Int))))then((df zr 0 limit).bind fun y=>tm y)else(tm zr)
  |e::tl,out=>(dH e).bind fun r1=>(app out ([r1])).bind fun z_=>(ou order limit tl) z_
def tY(rows:(List (List ac)))(order:(List kU))(limit:Int):Option (List (List ac)):=ou order limit rows ([]:List (List ac))
def ow(r:fO)(n:ai):Option ((List (List ac))×Int):=(cO r.rows n.A).bind fun e=>(tY e n.R' n.U').bind fun r1=>some (r1,0)
def Bo(l:(List (List ac))):Option ((List (List ac))×Int):=(AD ([l])).bind fun r=>if(r !=0)then(some ([],r))else((yN l).bind fun r1=>some (r1,0))
def sM(l:aZ)(nx:Nat->fO->Option ((List (List ac))×Int))(i:Nat)(r2:((List (List ac))×Int)×fO)(rows:(List (List ac))):Option ((List (List ac))×Int):=(nu l (i:Int)).bind fun r3=>(o6 r3.1).bind fun r4=>(app r2.2.rows ([rows])).bind fun l3=>(app r2.2.width ([(r4.1.length:Int)])).bind fun l4=>nx (i+1) ({({r2.2 with rows:=l3}:fO)with width:=l4}:fO)
def sN(l:aZ)(nx:Nat->fO->Option ((List (List ac))×Int))(i:Nat)(e:ai)(r2:((List (List ac))×Int)×fO)(e2:Int):Option ((List (List ac))×Int):=if(e2 !=0)then(some ([],e2))else(if(e.Op !=8)then((Bo r2.1.1).bind fun r5=>sM l nx i r2 r5.1)else(sM l nx i r2 r2.1.1))
def jw(l:aZ):List ai->Nat->fO->Option ((List (List ac))×Int)
 |[],i,ob=>(cO ob.rows (i64.wrap ((ob.rows.length:Int)-1))).bind fun e1=>some (e1,0)
 |e::tl,i,ob=>(((m5 (dO (dO (dO (dO (dO (dO (dO (dO ([]:List (Int×(fO->ai->Option (((List (List ac))×Int)×fO)))) 1 (fun(mc:fO) (mx:ai)=>(oZ mc mx).map fun mr=>(mr,mc))) 2 (fun(mc:fO) (mx:ai)=>(nw mc mx).map fun mr=>(mr,mc))) 3 (fun(mc:fO) (mx:ai)=>(nk mc mx).map fun mr=>(mr,mc))) 4 (fun(mc:fO) (mx:ai)=>(mH mc mx).map fun mr=>(mr,mc))) 5 (fun(mc:fO) (mx:ai)=>(mG mc mx).map fun mr=>(mr,mc))) 6 (fun(mc:fO) (mx:ai)=>(lQ mc mx).map fun mr=>(mr,mc))) 7 (fun(mc:fO) (mx:ai)=>(ov mc mx).map fun mr=>(mr,mc))) 8 (fun(mc:fO) (mx:ai)=>(ow mc mx).map fun mr=>(mr,mc))) e.Op).getD (fun _ _=>none)) ob (e)).bind fun r2=>if((r2.1.2==0)&&(decide (8000<(r2.1.1.length:Int))))then(sN l (jw l tl) i e r2 3)else(sN l (jw l tl) i e r2 r2.1.2)
def j5(l:aZ)(b:da):Option ((List (List ac))×Int):=(n9 l).bind fun r=>if(r.2 !=0)then(some ([],r.2))else((zP l b).bind fun r1=>if(!r1)then(some ([],250))else(jw l l.j' 0 (⟨b,[],[]⟩:fO)))
def cE(s2:(List ai))(eq:(ai->ai->Option Bool)):List ai->Nat->Option Bool
 |[],i=>some true
 |e::tl,i=>(cO s2 (i:Int)).bind fun e1=>(eq e e1).bind fun r=>if(!r)then(some false)else((cE s2 eq tl) (i+1))
def eN(s1:(List ai))(s2:(List ai))(eq:(ai->ai->Option Bool)):Option Bool:=if((s1.length:Int) !=(s2.length:Int))then(some false)else(cE s2 eq s1 0)
def fD(s2:(List av)):List av->Nat->Option Bool
 |[],i=>some true
 |e::tl,i=>(cO s2 (i:Int)).bind fun e1=>if(!decide (e=e1))then(some false)else((fD s2 tl) (i+1))
def lv(s1:(List av))(s2:(List av)):Option Bool:=if((s1.length:Int) !=(s2.length:Int))then(some false)else(fD s2 s1 0)
def uR(a1:au)(b:au):Option Bool:=(lv a1.j' b.j').bind fun r=>some r
def qx(p:jx)(y:jx):Option Bool:=(if(p.Tag==y.Tag)then((uR p.Arg y.Arg).bind fun r=>some r)else some false).bind fun t=>some t
def kI(s2:(List Int)):List Int->Nat->Option Bool
 |[],i=>some true
 |e::tl,i=>(cO s2 (i:Int)).bind fun e1=>if(e !=e1)then(some false)else((kI s2 tl) (i+1))
def mY(s1:(List Int))(s2:(List Int)):Option Bool:=if((s1.length:Int) !=(s2.length:Int))then(some false)else(kI s2 s1 0)
def gV(s2:(List kU)):List kU->Nat->Option Bool
 |[],i=>some true
 |e::tl,i=>(cO s2 (i:Int)).bind fun e1=>if(!decide (e=e1))then(some false)else((gV s2 tl) (i+1))
def km(s1:(List kU))(s2:(List kU)):Option Bool:=if((s1.length:Int) !=(s2.length:Int))then(some false)else(gV s2 s1 0)
def c9(s2:(List jx))(eq:(jx->jx->Option Bool)):List jx->Nat->Option Bool
 |[],i=>some true
 |e::tl,i=>(cO s2 (i:Int)).bind fun e1=>(eq e e1).bind fun r=>if(!r)then(some false)else((c9 s2 eq tl) (i+1))
def ei(s1:(List jx))(s2:(List jx))(eq:(jx->jx->Option Bool)):Option Bool:=if((s1.length:Int) !=(s2.length:Int))then(some false)else(c9 s2 eq s1 0)
def cN(s2:(List au))(eq:(au->au->Option Bool)):List au->Nat->Option Bool
 |[],i=>some true
 |e::tl,i=>(cO s2 (i:Int)).bind fun e1=>(eq e e1).bind fun r=>if(!r)then(some false)else((cN s2 eq tl) (i+1))
def dK(s1:(List au))(s2:(List au))(eq:(au->au->Option Bool)):Option Bool:=if((s1.length:Int) !=(s2.length:Int))then(some false)else(cN s2 eq s1 0)
def y4(a1:ai)(b:ai):Option Bool:=(mY a1.P' b.P').bind fun r=>(if r then((mY a1.Q' b.Q').bind fun r1=>some r1)else some false).bind fun t=>(if t then((km a1.R' b.R').bind fun r2=>some r2)else some false).bind fun t1=>(uR a1.J' b.J').bind fun r3=>(if r3 then((ei a1.M' b.M' qx).bind fun r4=>some r4)else some false).bind fun t2=>(if t2 then((dK a1.I' b.I' uR).bind fun r5=>some r5)else some false).bind fun t3=>some ((((((((a1.Op==b.Op)&&(a1.A==b.A))&&(a1.B==b.B))&&(a1.Table==b.Table))&&(a1.Left==b.Left))&&(a1.U'==b.U'))&&t1)&&t3)
def wp(a1:aZ)(b:aZ):Option Bool:=(eN a1.j' b.j' y4).bind fun r=>some r
def cZ(s2:(List (List ac)))(eq:((List ac)->(List ac)->Option Bool)):List (List ac)->Nat->Option Bool
 |[],i=>some true
 |e::tl,i=>(cO s2 (i:Int)).bind fun e1=>(eq e e1).bind fun r=>if(!r)then(some false)else((cZ s2 eq tl) (i+1))
def fY(s1:(List (List ac)))(s2:(List (List ac)))(eq:((List ac)->(List ac)->Option Bool)):Option Bool:=if((s1.length:Int) !=(s2.length:Int))then(some false)else(cZ s2 eq s1 0)
def wH(p:(List ac))(y:(List ac)):Option Bool:=(ql p y).bind fun r=>some (r==0)
def uP(a1:(List (List ac)))(b:(List (List ac))):Option Bool:=(fY a1 b wH).bind fun r=>some r
def mi(r2:da)(r3:(List (List ac))×Int)(r4:aZ×Int)(r5:aZ×Bool×Int):Nat->Nat->Option Bool
  |0,i=>some true
  |k1+1,i=>(cO ([r4.1,r5.1]) (i:Int)).bind fun e1=>(j5 e1 r2).bind fun r7=>(if(!(r7.2 !=r3.2))then((uP r7.1 r3.1).bind fun r8=>some (!r8))else some true).bind fun t2=>if t2 then(some false)else((mi r2 r3 r4 r5 k1) (i+1))
def qy(p:aZ)(y:da):Option Bool:=(CS).bind fun r=>if(!r)then(some false)else((DA p).bind fun r1=>(Bv y).bind fun r2=>if(decide (14<(r1.j'.length:Int)))then(some true)else((j5 r1 r2).bind fun r3=>if((r3.2 !=0)&&(r3.2 !=140))then(some true)else((oX r1).bind fun r4=>(uJ r1).bind fun r5=>(if(!((r4.2 !=0)||(r5.2.2 !=0)))then((if(!r5.2.1)then((wp r5.1 r1).bind fun r6=>some (!r6))else some false).bind fun t1=>some t1)else some true).bind fun t=>if t then(some false)else(mi r2 r3 r4 r5 2 0))))