import Derived.Test.YtadeokalnbmppaaGreatDoorReD
import Derived.Test.YtadeokalnbmppaaGreatDoorReV4
import Derived.Lib.MapU
set_option linter.all false
namespace Go.Proofs.YtadeokalnbmppaaGreatDoor
open Go IntKind
def iD(f:(Int->Option Bool)):List Int->Nat->Option Int
 |[],i=>some (-1)
 |e::tl,i=>(f e).bind fun r=>if r then(some (i:Int))else((iD f tl) (i+1))
def oG(s:(List Int))(f:(Int->Option Bool)):Option Int:=iD f s 0
def dr(s:(List Int))(f:(Int->Option Bool)):Option Bool:=(oG s f).bind fun r=>some (decide (0<=r))
def Fu(k:Int):Option Bool:=some (((k==1)||(k==2))||(k==3))
def oq(k:Int):Option Bool:=(Fu k).bind fun r=>some (!r)
def iZ(c:aF)(n:ac):Option ((List Int)×Bool):=(if((((decide (0<=n.M'))&&(decide (n.M'<4)))&&(decide (1<=(n.U'.length:Int))))&&(decide ((n.U'.length:Int)<=4)))then((dr n.U' oq).bind fun r=>some (!r))else some false).bind fun t=>some (n.U',t)
def pJ(s:List Int):Option (List Int):=some s
def pK(n:Int):Option (List Int):=if(decide (0<(i64.wrap (n-(i64.wrap (0-0))))))then((gt0 (i64.wrap (n-(i64.wrap (0-0))))).bind fun _=>(yN (i64.wrap (n-(i64.wrap (0-0)))) 0).bind fun mk=>(fz mk 0 0).bind fun y=>pJ y)else(pJ ([]:List Int))
def oW(n:Int):Option (List Int):=if(decide (n<0))then(none)else(pK n)
def lJ:List (List Int)->(List Int)->Option (List Int)
 |[],S_=>some S_
 |e1::tl1,S_=>(nH S_ e1).bind fun newslice1=>(lJ tl1) newslice1
def lK(slices:(List (List Int))):List (List Int)->Int->Option (List Int)
 |[],size=>(oW size).bind fun r=>lJ slices r
 |e::tl,size=>if(decide ((i64.wrap (size+(e.length:Int)))<0))then(none)else((lK slices tl) (i64.wrap (size+(e.length:Int))))
def jE(slices:(List (List Int))):Option (List Int):=lK slices slices 0
def uv(tag:Int):Option Int:=if((tag==1)||(tag==2))then(some 0)else(if((decide (4<=tag))&&(decide (tag<=7)))then(some 1)else(if((decide (12<=tag))&&(decide (tag<=23)))then(some 2)else(some (-1))))
def nq(v1:dX):Option dX:=some v1
def tk(v2:dX):Option dX:=nq (dX.mk 0 v2.N v2.U v2.S)
def th(v:dX):Option dX:=tk (dX.mk v.Kind 0 v.U v.S)
def tg(v3:dX):Option dX:=nq v3
def zZ(v:dX):Option dX:=if(v.Kind==1)then(if((v.N !=0)&&(v.N !=1))then(nq v)else(th v))else(if(v.Kind==2)then(th v)else(if(v.Kind==0)then(tk v)else(if(v.Kind==3)then(if(decide ((v.S.length:Int)<=40))then(tg (dX.mk 0 v.N v.U ([])))else(tg v))else(if(v.Kind==4)then(nq (dX.mk 0 0 0 v.S))else(nq v)))))
def xc(v:dX):Option Int:=(zZ v).bind fun r=>if(!decide (r=(⟨0,0,0,[]⟩:dX)))then(some 120)else(some 0)
def w9(v:dX):Option Bool:=(xc v).bind fun r=>some ((r==0)&&(v.Kind !=4))
def xw(n:bw):Option Bool:=if(n.Tag==1)then((w9 n.Value).bind fun r=>some (r&&(n.y_==0)))else(if(n.Tag==2)then(some (((decide (n.Value=(⟨0,0,0,[]⟩:dX)))&&(decide (0<=n.y_)))&&(decide (n.y_<16))))else(some ((decide (n.Value=(⟨0,0,0,[]⟩:dX)))&&(n.y_==0))))
def pp(nx:Nat->(List Int)->(List Int)->Option ((List Int)×Bool))(i:Nat)(e1:bw)(all:List Int)(open1:List Int)(r:Int):List Int->Nat->Int->(List Int)->Option ((List Int)×Bool)
  |[],i1,first,r_=>if(!decide (r_=([e1.L,e1.R])))then(some ([],false))else((nH all ([first])).bind fun all1=>(fz open1 0 (i64.wrap ((open1.length:Int)-r))).bind fun y1=>(nH y1 ([(i:Int)])).bind fun open2=>nx (i+1) all1 open2)
  |e2::tl1,i1,first,r_=>(dm all e2).bind fun e3=>(dm r_ (i1:Int)).bind fun e4=>(some (r_.set (i1:Int).toNat e2)).bind fun ar=>(pp nx i e1 all open1 r tl1) (i1+1) (min first e3) ar
def nF:List bw->Nat->(List Int)->(List Int)->Option ((List Int)×Bool)
  |[],i,all,open1=>some (all,(((open1.length:Int)==1)&&(decide ((all.length:Int)<=1000))))
  |e1::tl,i,all,open1=>(uv e1.Tag).bind fun r=>(if(!((decide (r<0))||(decide ((open1.length:Int)<r))))then((xw e1).bind fun r1=>some (!r1))else some true).bind fun t=>if t then(some ([],false))else((fz open1 (i64.wrap ((open1.length:Int)-r)) (open1.length:Int)).bind fun y=>pp (nF tl) i e1 all open1 r y 0 (i:Int) ([(-1),(-1)]))
def ve(e:bD):Option ((List Int)×Bool):=nF e.u' 0 ([]:List Int) ([]:List Int)
def sv(e:bD):Option Int:=(ve e).bind fun r=>if(!r.2)then(some 200)else(some 0)
def fG(i:Nat)(y:List Int):Nat->Nat->(List Int)->Int->Option (List Int)
  |0,i1,s1,k=>(fz s1 k (s1.length:Int)).bind fun y1=>(some (s1.take k.toNat++List.replicate y1.length 0)).bind fun cl=>(fz cl 0 k).bind fun y2=>some y2
  |k2+1,i1,s1,k=>(IC s1 (i:Int) y.length (i1:Int)).bind fun e3=>(IC s1 (i:Int) y.length (i64.wrap ((i1:Int)-1))).bind fun e4=>if(e3 !=e4)then((IC s1 (i:Int) y.length (i1:Int)).bind fun e5=>(dm s1 k).bind fun e6=>(some (s1.set k.toNat e5)).bind fun st=>(fG i y k2) (i1+1) st (i64.wrap (k+1)))else((fG i y k2) (i1+1) s1 k)
def gN(s:(List Int)):List Int->Nat->Option (List Int)
  |[],i=>some s
  |e::tl,i=>(dm s (i64.wrap ((i:Int)-1))).bind fun e1=>if(e==e1)then((fz s (i:Int) (s.length:Int)).bind fun y=>fG i y (y.length-1) 1 s (i:Int))else((gN s tl) (i+1))
def mV(s:(List Int)):Option (List Int):=if(decide ((s.length:Int)<2))then(some s)else(gN s (s.drop (1)) 1)
def pU:List bw->(List Int)->Option (List Int)
  |[],out=>(G2 out).bind fun srt=>(mV srt).bind fun r1=>some r1
  |e1::tl,out=>if(e1.Tag==2)then((nH out ([e1.y_])).bind fun g_=>(pU tl) g_)else((pU tl) out)
def yp(e:bD):Option (List Int):=(sv e).bind fun r=>if(r !=0)then(some ([]:List Int))else(pU e.u' ([]:List Int))
def bU(s:(List Int)):Option (List Int):=(nH ([]:List Int) s).bind fun x=>some x
def rZ(stack:(List Int))(k:Int):Option ((List Int)×(List Int)):=(fz stack (i64.wrap ((stack.length:Int)-k)) (stack.length:Int)).bind fun y=>(bU y).bind fun r=>(fz stack 0 (i64.wrap ((stack.length:Int)-k))).bind fun y1=>some (r,y1)
def po(bad:Int)(stack:List Int):Option (Int×Int):=if(bad !=0)then(some (0,bad))else((dm stack 0).bind fun e1=>some (e1,0))
def kj(do1:(bw->(List Int)->Option (Int×Int))):List bw->Int->(List Int)->Option (Int×Int)
  |[],bad1,stack1=>po bad1 stack1
  |e2::tl,bad1,stack1=>(uv e2.Tag).bind fun r=>(rZ stack1 r).bind fun r1=>(do1 e2 r1.1).bind fun r2=>if(r2.2 !=0)then(po r2.2 r1.2)else((nH r1.2 ([r2.1])).bind fun l2=>(kj do1 tl) bad1 l2)
def rL(e:bD)(do1:(bw->(List Int)->Option (Int×Int))):Option (Int×Int):=kj do1 e.u' 0 ([]:List Int)
def vv(tag:Int):Option Bool:=some ((tag==4)||((decide (12<=tag))&&(decide (tag<=15))))
def pq(j':(List Int))(n:bw):List Int->Int->Option (Int×Int)
  |[],own=>if(n.Tag==1)then(some (n.Value.Kind,0))else(if(n.Tag==2)then((dm j' n.y_).bind fun e1=>some (e1,0))else((vv n.Tag).bind fun r=>if r then(if((own==(-1))||((own !=0)&&(own !=2)))then(some (0,201))else(some (2,0)))else(if(((n.Tag==5)||(n.Tag==22))||(n.Tag==23))then(if((own==(-1))||((own !=0)&&(own !=1)))then(some (0,201))else(some (1,0)))else(if((own==(-1))||((own !=0)&&(own !=own)))then(some (0,201))else(some (1,0))))))
  |e::tl,own=>if((e==0)||(e==own))then((pq j' n tl) own)else(if(own==0)then((pq j' n tl) e)else((pq j' n tl) (-1)))
def mh(j':(List Int))(n:bw)(l:(List Int)):Option (Int×Int):=pq j' n l 0
def pT(e:bD)(j':(List Int)):List Int->Option (Int×Int)
 |[]=>(rL e (mh j')).bind fun r2=>some (r2.1,r2.2)
 |e2::tl1=>if(decide ((j'.length:Int)<=e2))then(some (0,2))else((pT e j' tl1))
def tN(e:bD)(j':(List Int)):List Int->Option (Int×Int)
 |[]=>(yp e).bind fun r1=>pT e j' r1
 |e1::tl=>if((decide (e1<0))||(decide (3<e1)))then(some (0,2))else((tN e j' tl))
def nm(e:bD)(j':(List Int)):Option (Int×Int):=(sv e).bind fun r=>if(r !=0)then(some (0,r))else(tN e j' j')
def va(e:bD)(j':(List Int)):Option Bool:=(nm e j').bind fun r=>some ((r.2==0)&&((r.1==1)||(r.1==0)))
def j7(c:aF)(n:ac):Option ((List Int)×Bool):=(dm c.j' n.A).bind fun e=>(dm c.j' n.B).bind fun e1=>(jE ([e,e1])).bind fun r=>(va n.f_ r).bind fun r1=>some (r,r1)
def ja(c:aF)(n:ac):Option ((List Int)×Bool):=(dm c.j' n.A).bind fun e=>(va n.f_ e).bind fun r=>some (e,r)
def tE(j':(List Int))(c:Int):Option Bool:=some ((decide (c<0))||(decide ((j'.length:Int)<=c)))
def vQ(l:(List Int))(j':(List Int)):Option Bool:=(dr l (tE j')).bind fun r=>some (!r)
def vS(r:Int×Int)(x:Bool):Option (Int×Bool):=if x then(some (r.1,(r.2==0)))else(some (0,false))
def Bc(a1:fh)(j':(List Int)):Option (Int×Bool):=if(a1.Tag==1)then(some (2,((a1.N_.u'.length:Int)==0)))else((nm a1.N_ j').bind fun r=>if(a1.Tag==2)then(some (2,(r.2==0)))else(if(a1.Tag==3)then(some (2,((r.2==0)&&((r.1==2)||(r.1==0)))))else(if(a1.Tag==4)then(vS r (a1.Tag==4))else(vS r (a1.Tag==5)))))
def gW(e:(List Int)):List fh->(List Int)->Bool->Option ((List Int)×Bool)
 |[],g_,ok=>some (g_,ok)
 |e2::tl1,g_,ok=>(Bc e2 e).bind fun r1=>(nH g_ ([r1.1])).bind fun out2=>(gW e tl1) out2 (ok&&r1.2)
def jl(n:ac)(e:(List Int))(t:Bool):List Int->(List Int)->Option ((List Int)×Bool)
 |[],out=>gW e n.L' out t
 |e1::tl,out=>(dm e e1).bind fun e3=>(nH out ([e3])).bind fun out3=>(jl n e t tl) out3
def jw(c:aF)(n:ac):Option ((List Int)×Bool):=(dm c.j' n.A).bind fun e=>(if(((decide ((n.I'.length:Int)<=3))&&(decide ((n.L'.length:Int)<=12)))&&(decide (0<(i64.wrap ((n.I'.length:Int)+(n.L'.length:Int))))))then((vQ n.I' e).bind fun r=>some r)else some false).bind fun t=>if(!t)then(some ([],false))else(jl n e t n.I' ([]:List Int))
def io(c:aF)(n:ac):List bD->(List Int)->Bool->Option ((List Int)×Bool)
 |[],out,ok=>some (out,ok)
 |e::tl,out,ok=>(dm c.j' n.A).bind fun e1=>(nm e e1).bind fun r=>(nH out ([r.1])).bind fun g_=>(io c n tl) g_ (ok&&(r.2==0))
def iA(c:aF)(n:ac):Option ((List Int)×Bool):=io c n n.N' ([]:List Int) ((decide (1<=(n.N'.length:Int)))&&(decide ((n.N'.length:Int)<=16)))
def gX(c:aF)(n:ac):Option ((List Int)×Bool):=(dm c.j' n.A).bind fun e=>some (e,true)
def kF(nx:Nat->(List Int)->Bool->Option ((List Int)×Bool))(i:Nat)(e2:Int)(ok:Bool)(g_:List Int):Option ((List Int)×Bool):=(if ok then((dm g_ (i:Int)).bind fun e3=>some ((e3==e2)||(e2==0)))else some false).bind fun t=>nx (i+1) g_ t
def eU:List Int->Nat->(List Int)->Bool->Option ((List Int)×Bool)
  |[],i,out,ok=>some (out,ok)
  |e2::tl,i,out,ok=>(dm out (i:Int)).bind fun e4=>if(e4==0)then((some (out.set (i:Int).toNat e2)).bind fun st=>kF (eU tl) i e2 ok st)else(kF (eU tl) i e2 ok out)
def ju(c:aF)(n:ac):Option ((List Int)×Bool):=(dm c.j' n.A).bind fun e=>(dm c.j' n.B).bind fun e1=>if((e.length:Int) !=(e1.length:Int))then(some ([],false))else((bU e).bind fun r=>eU e1 0 r true)
def nN(in1:(List Int))(o:px):Option Bool:=some ((decide (o.y_<0))||(decide ((in1.length:Int)<=o.y_)))
def eY(f:(px->Option Bool)):List px->Nat->Option Int
 |[],i=>some (-1)
 |e::tl,i=>(f e).bind fun r=>if r then(some (i:Int))else((eY f tl) (i+1))
def kx(s:(List px))(f:(px->Option Bool)):Option Int:=eY f s 0
def eZ(s:(List px))(f:(px->Option Bool)):Option Bool:=(kx s f).bind fun r=>some (decide (0<=r))
def jv(c:aF)(n:ac):Option ((List Int)×Bool):=(dm c.j' n.A).bind fun e=>(if(decide ((n.Y'.length:Int)<=3))then((eZ n.Y' (nN e)).bind fun r=>some (!r))else some false).bind fun t=>some (e,(((t&&(decide ((-1)<=n.Z')))&&(decide (n.Z'<=2147483647)))&&((c.j'.length:Int)==(i64.wrap ((c.T_.u'.length:Int)-1)))))
def wB(n:ac):Option Bool:=some (((((((((n.M'==0)&&((n.U'.length:Int)==0))&&(!n.Left))&&((n.f_.u'.length:Int)==0))&&((n.I'.length:Int)==0))&&((n.L'.length:Int)==0))&&((n.N'.length:Int)==0))&&((n.Y'.length:Int)==0))&&(n.Z'==0))
def wC(n:ac):Option ac:=if(n.Op==1)then(some (ac.mk n.Op n.A n.B 0 ([]) n.Left n.f_ n.I' n.L' n.N' n.Y' n.Z'))else(if(n.Op==2)then(some (ac.mk n.Op n.A n.B n.M' n.U' false ⟨[]⟩ n.I' n.L' n.N' n.Y' n.Z'))else(if(n.Op==3)then(some (ac.mk n.Op n.A n.B n.M' n.U' n.Left ⟨[]⟩ n.I' n.L' n.N' n.Y' n.Z'))else(if(n.Op==4)then(some (ac.mk n.Op n.A n.B n.M' n.U' n.Left n.f_ ([]) ([]) n.N' n.Y' n.Z'))else(if(n.Op==5)then(some (ac.mk n.Op n.A n.B n.M' n.U' n.Left n.f_ n.I' n.L' ([]) n.Y' n.Z'))else(if(n.Op==8)then(some (ac.mk n.Op n.A n.B n.M' n.U' n.Left n.f_ n.I' n.L' n.N' ([]) 0))else(some n))))))
def tF(x:Bool):Option Int:=if x then(some 2)else(some 1)
def xn(op:Int):Option Int:=if(op==1)then(some 0)else(if(op==2)then(tF (op==2))else(tF (op==7)))
def mQ(c:aF)(i:Int):Option (Int×Bool):=(dm c.T_.u' i).bind fun e=>(xn e.Op).bind fun r=>if(r==0)then(some (i,((e.A==(-1))&&(e.B==(-1)))))else(if(r==1)then(if(((e.A !=(i64.wrap (i-1)))||(e.B !=(-1)))||(i==0))then(some (0,false))else((dm c.first e.A).bind fun e1=>some (e1,true)))else((if(!((e.B !=(i64.wrap (i-1)))||(i==0)))then((dm c.first e.B).bind fun e2=>some (e.A !=(i64.wrap (e2-1))))else some true).bind fun t=>if(t||(decide (e.A<0)))then(some (0,false))else((dm c.first e.A).bind fun e3=>some (e3,true))))
def jm{Sg:Type}(D_:(Int×Bool)->Sg->Option (Bool×Sg))(nx:Nat->Sg->aF->Option (Sg×aF))(i:Nat)(s1:Sg)(ok1:Bool)(j':(List Int))(ob2:aF):Option (Sg×aF):=(nH ob2.j' ([j'])).bind fun l6=>(D_ ((i:Int),(ok1&&(decide ((j'.length:Int)<=16)))) s1).bind fun r2=>if((!r2.1)||(!(ok1&&(decide ((j'.length:Int)<=16)))))then(some (r2.2,({ob2 with j':=l6}:aF)))else(nx (i+1) r2.2 ({ob2 with j':=l6}:aF))
def fS{Sg:Type}(D_:(Int×Bool)->Sg->Option (Bool×Sg))(nx:Nat->Sg->aF->Option (Sg×aF))(i:Nat)(e2:ac)(s1:Sg)(ok:Bool)(v_:aF):Option (Sg×aF):=if ok then((((jC (dC (dC (dC (dC (dC (dC (dC (dC ([]:List (Int×(aF->ac->Option (((List Int)×Bool)×aF)))) 1 (fun(mc:aF) (mx:ac)=>(iZ mc mx).map fun mr=>(mr,mc))) 2 (fun(mc:aF) (mx:ac)=>(j7 mc mx).map fun mr=>(mr,mc))) 3 (fun(mc:aF) (mx:ac)=>(ja mc mx).map fun mr=>(mr,mc))) 4 (fun(mc:aF) (mx:ac)=>(jw mc mx).map fun mr=>(mr,mc))) 5 (fun(mc:aF) (mx:ac)=>(iA mc mx).map fun mr=>(mr,mc))) 6 (fun(mc:aF) (mx:ac)=>(gX mc mx).map fun mr=>(mr,mc))) 7 (fun(mc:aF) (mx:ac)=>(ju mc mx).map fun mr=>(mr,mc))) 8 (fun(mc:aF) (mx:ac)=>(jv mc mx).map fun mr=>(mr,mc))) e2.Op).getD (fun _ _=>none)) v_ (e2)).bind fun r3=>jm D_ nx i s1 r3.1.2 r3.1.1 r3.2)else(jm D_ nx i s1 ok ([]) v_)
def bZ{Sg:Type}(D_:(Int×Bool)->Sg->Option (Bool×Sg)):List ac->Nat->Sg->aF->Option (Sg×aF)
  |[],i,s1,ob=>some (s1,ob)
  |e2::tl,i,s1,ob=>(if((jC (dC (dC (dC (dC (dC (dC (dC (dC ([]:List (Int×(aF->ac->Option (((List Int)×Bool)×aF)))) 1 (fun(mc:aF) (mx:ac)=>(iZ mc mx).map fun mr=>(mr,mc))) 2 (fun(mc:aF) (mx:ac)=>(j7 mc mx).map fun mr=>(mr,mc))) 3 (fun(mc:aF) (mx:ac)=>(ja mc mx).map fun mr=>(mr,mc))) 4 (fun(mc:aF) (mx:ac)=>(jw mc mx).map fun mr=>(mr,mc))) 5 (fun(mc:aF) (mx:ac)=>(iA mc mx).map fun mr=>(mr,mc))) 6 (fun(mc:aF) (mx:ac)=>(gX mc mx).map fun mr=>(mr,mc))) 7 (fun(mc:aF) (mx:ac)=>(ju mc mx).map fun mr=>(mr,mc))) 8 (fun(mc:aF) (mx:ac)=>(jv mc mx).map fun mr=>(mr,mc))) e2.Op).isSome)then((wC e2).bind fun r=>(wB r).bind fun r1=>some r1)else some false).bind fun t=>if t then((mQ ob (i:Int)).bind fun r4=>(nH ob.first ([r4.1])).bind fun l7=>fS D_ (bZ D_ tl) i e2 s1 r4.2 ({ob with first:=l7}:aF))else(fS D_ (bZ D_ tl) i e2 s1 t ob)
def oY{Sg:Type}(c:aF)(D_:(Int×Bool)->Sg->Option (Bool×Sg))(s:Sg):Option (Sg×aF):=bZ D_ c.T_.u' 0 s c
def tG(c:aF):Option (Uh (Int×Bool) aF):=some (fun _=>oY c)
def rD(x:Int×Bool)(x1:Bool)(x2:Int)(p:Bool):Option (Option Nat×(Bool×Int×Bool)):=if(!x.2)then(some (some 0,(false,x.1,true)))else(some (none,(x1,x2,p)))
def pQ(l:cQ):Option (aF×Int×Bool):=if((decide ((l.u'.length:Int)<1))||(decide (60<(l.u'.length:Int))))then(some ((⟨l,[],[]⟩:aF),0,false))else((tG (⟨l,[],[]⟩:aF)).bind fun it=>(it (Option Nat×(Bool×Int×Bool)) (B0 (fun x s=>rD x s.1 s.2.1 s.2.2)) (none,(false,0,false))).bind fun r=>if r.1.1.isNone then((dm r.2.first (i64.wrap ((l.u'.length:Int)-1))).bind fun e=>some (r.2,(i64.wrap ((l.u'.length:Int)-1)),(e==0)))else((isT r.1.2.2.2).bind fun _=>some (r.2,r.1.2.2.1,r.1.2.1)))
def qR(l:cQ):Option ((List Int)×Int):=(pQ l).bind fun r=>if(!r.2.2)then(some ([],230))else((dm r.1.j' r.2.1).bind fun e=>(bU e).bind fun r1=>some (r1,0))
def xo(l:cQ):Option (Int×Int):=(pQ l).bind fun r=>if(!r.2.2)then(some (r.2.1,230))else(some (0,0))
def yi(c:Int):Option Bool:=some ((decide (97<=c))&&(decide (c<=122)))
def gK(v:ru):List ru->Nat->Option Int
 |[],i=>some (-1)
 |e::tl,i=>if(v==e)then(some (i:Int))else((gK v tl) (i+1))
def nu(s:(List ru))(v:ru):Option Int:=gK v s 0
def lV(s:(List ru))(v:ru):Option Bool:=(nu s v).bind fun r=>some (decide (0<=r))
def zc(s:ru):Option Bool:=(lV gv1 s).bind fun r=>some r
def mG(s:ru):Option ru:=if s.length<35184372088832 then some (Lib.toUpperD s)else none
def Bd(c:Int):Option Bool:=some ((decide (48<=c))&&(decide (c<=57)))
def rE:List (Int×Int)->Option Bool
  |[]=>some true
  |e::tl=>(Bd e.2).bind fun r3=>(if(!r3)then((yi e.2).bind fun r4=>some (!r4))else some false).bind fun t2=>if(t2&&(e.2 !=95))then(some false)else((rE tl))
def ut(s:ru):Option Bool:=(if(!((s==([]))||(decide (16<(s.length:Int)))))then((VH s 0).bind fun b=>(yi (i32.wrap b)).bind fun r=>some (!r))else some true).bind fun t=>(if(!t)then((mG s).bind fun r1=>(zc r1).bind fun r2=>some r2)else some true).bind fun t1=>if t1 then(some false)else(rE (Mw s))
def dv(f:(cc->Option Bool)):List cc->Nat->Option Int
 |[],i=>some (-1)
 |e::tl,i=>(f e).bind fun r=>if r then(some (i:Int))else((dv f tl) (i+1))
def iP(s:(List cc))(f:(cc->Option Bool)):Option Int:=dv f s 0
def gP(of:(cc->Option ru))(name:ru)(p:cc):Option Bool:=(of p).bind fun r=>some (r==name)
def mB(l:(List cc))(of:(cc->Option ru))(name:ru):Option (Int×Bool):=(iP l (gP of name)).bind fun r=>some ((max r 0),decide (0<=r))
def jf(l:(List cc))(of:(cc->Option ru)):List cc->Nat->Option Bool
  |[],i=>some true
  |e::tl,i=>(of e).bind fun r=>(mB l of r).bind fun r1=>(if(!(r1.1 !=(i:Int)))then((of e).bind fun r2=>(ut r2).bind fun r3=>some (!r3))else some true).bind fun t=>if t then(some false)else((jf l of tl) (i+1))
def pt(l:(List cc))(of:(cc->Option ru)):Option Bool:=jf l of l 0
def gZ(c:cc):Option ru:=some c.Name
def mM(kind:Int):Nat->Nat->Option ru
 |0,i=>some ([])
 |k1+1,i=>(dm gv0 (i:Int)).bind fun e1=>if(e1.kind==kind)then(some e1.word)else((mM kind k1) (i+1))
def vX(kind:Int):Option ru:=mM kind 3 0
def iB(t:de):List Int->Nat->Bool->Option Int
  |[],i1,ok1=>if(!ok1)then(some 211)else(some 0)
  |e1::tl1,i1,ok1=>(if((ok1&&(decide (0<=e1)))&&(decide (e1<(t.b_.length:Int))))then((if(!((i1:Int)==0))then((dm t.I' (i64.wrap ((i1:Int)-1))).bind fun e2=>some (decide (e2<e1)))else some true).bind fun t3=>some t3)else some false).bind fun t2=>(iB t tl1) (i1+1) t2
def jI(t:de):List cc->Bool->Option Int
  |[],ok=>iB t t.I' 0 ok
  |e::tl,ok=>(if ok then((vX e.Kind).bind fun r2=>some (!(r2==([]))))else some false).bind fun t4=>(jI t tl) t4
def pW(t:de):Option Int:=(ut t.Name).bind fun r=>(if((r&&(decide (1<=(t.b_.length:Int))))&&(decide ((t.b_.length:Int)<=4)))then((pt t.b_ gZ).bind fun r1=>some r1)else some false).bind fun t1=>jI t t.b_ t1
def nY(t:de):Option Bool:=(pW t).bind fun r=>some (r !=0)
def cB(f:(de->Option Bool)):List de->Nat->Option Int
 |[],i=>some (-1)
 |e::tl,i=>(f e).bind fun r=>if r then(some (i:Int))else((cB f tl) (i+1))
def eK(s:(List de))(f:(de->Option Bool)):Option Int:=cB f s 0
def iJ(s:(List de))(f:(de->Option Bool)):Option Bool:=(eK s f).bind fun r=>some (decide (0<=r))
def iq(of:(de->Option ru))(name:ru)(p:de):Option Bool:=(of p).bind fun r=>some (r==name)
def mY(l:(List de))(of:(de->Option ru))(name:ru):Option (Int×Bool):=(eK l (iq of name)).bind fun r=>some ((max r 0),decide (0<=r))
def jp(l:(List de))(of:(de->Option ru)):List de->Nat->Option Bool
  |[],i=>some true
  |e::tl,i=>(of e).bind fun r=>(mY l of r).bind fun r1=>(if(!(r1.1 !=(i:Int)))then((of e).bind fun r2=>(ut r2).bind fun r3=>some (!r3))else some true).bind fun t=>if t then(some false)else((jp l of tl) (i+1))
def pV(l:(List de))(of:(de->Option ru)):Option Bool:=jp l of l 0
def iH(t:de):Option ru:=some t.Name
def rN(c:bo):Option Int:=(if(!(decide (4<(c.i_.length:Int))))then((iJ c.i_ nY).bind fun r=>some r)else some true).bind fun t=>(if(!t)then((pV c.i_ iH).bind fun r1=>some (!r1))else some true).bind fun t1=>if t1 then(some 210)else(some 0)
def iK(s2:(List Int)):List Int->Nat->Option Bool
 |[],i=>some true
 |e::tl,i=>(dm s2 (i:Int)).bind fun e1=>if(e !=e1)then(some false)else((iK s2 tl) (i+1))
def fO(s1:(List Int))(s2:(List Int)):Option Bool:=if((s1.length:Int) !=(s2.length:Int))then(some false)else(iK s2 s1 0)
def uL(nx:Option Bool):Option Bool:=nx
def qj(nx:Option Bool)(e:ac):List cc->(List Int)->Option Bool
 |[],j'=>(fO j' e.U').bind fun r=>if(!r)then(some false)else(uL nx)
 |e2::tl1,j'=>(nH j' ([e2.Kind])).bind fun kinds1=>(qj nx e tl1) kinds1
def m4(c:bo):List ac->Option Bool
  |[]=>some true
  |e::tl=>if(e.Op !=1)then(uL (m4 c tl))else(if(decide ((c.i_.length:Int)<=e.M'))then(some false)else((dm c.i_ e.M').bind fun e1=>qj (m4 c tl) e e1.b_ ([]:List Int)))
def Co(l:cQ)(c:bo):Option Bool:=m4 c l.u'
def fJ(s:(List px)):Option (List px):=(nH ([]:List px) s).bind fun x=>some x
def co(s:(List bw)):Option (List bw):=(nH ([]:List bw) s).bind fun x=>some x
def ic(s:(List fh)):Option (List fh):=(nH ([]:List fh) s).bind fun x=>some x
def gx(s:(List bD)):Option (List bD):=(nH ([]:List bD) s).bind fun x=>some x
def p7:List bD->Nat->ac->Option ac
 |[],i1,n4=>some n4
 |e1::tl1,i1,n4=>(dm n4.N' (i1:Int)).bind fun e2=>(co e2.u').bind fun r6=>(some (n4.N'.set (i1:Int).toNat ({e2 with u':=r6}:bD))).bind fun st=>(p7 tl1) (i1+1) ({n4 with N':=st}:ac)
def p8:List fh->Nat->ac->Option ac
 |[],i,n3=>p7 n3.N' 0 n3
 |e::tl,i,n3=>(dm n3.L' (i:Int)).bind fun e3=>(co e3.N_.u').bind fun r7=>(some (n3.L'.set (i:Int).toNat ({e3 with N_:=({e3.N_ with u':=r7}:bD)}:fh))).bind fun st1=>(p8 tl) (i+1) ({n3 with L':=st1}:ac)
def p9(n2:ac):Option ac:=(bU n2.U').bind fun r=>(bU n2.I').bind fun r1=>(fJ n2.Y').bind fun r2=>(co (n2.f_.u')).bind fun r3=>(ic n2.L').bind fun r4=>(gx n2.N').bind fun r5=>p8 r4 0 (⟨n2.Op,n2.A,n2.B,n2.M',r,n2.Left,({n2.f_ with u':=r3}:bD),r1,r4,r5,r2,n2.Z'⟩:ac)
def rW(by1:Int)(n1:ac):Option ac:=if(decide (0<=n1.B))then(p9 (ac.mk n1.Op n1.A (i64.wrap (n1.B+by1)) n1.M' n1.U' n1.Left n1.f_ n1.I' n1.L' n1.N' n1.Y' n1.Z'))else(p9 n1)
def vR(n:ac)(by1:Int):Option ac:=if(decide (0<=n.A))then(rW by1 (ac.mk n.Op (i64.wrap (n.A+by1)) n.B n.M' n.U' n.Left n.f_ n.I' n.L' n.N' n.Y' n.Z'))else(rW by1 n)
def qm(l:cQ)(place:Int)(e:Int):Nat->Int->cQ->Option (cQ×Int)
  |0,_,_=>none
  |n+1,i,out=>if(decide (i<=place))then((dm l.u' i).bind fun e1=>(vR e1 (i64.wrap (0-e))).bind fun r1=>(nH out.u' ([r1])).bind fun l2=>(qm l place e n) (i64.wrap (i+1)) ({out with u':=l2}:cQ))else(some (out,0))
def y8(l:cQ)(place:Int):Option (cQ×Int):=(pQ l).bind fun r=>if(!r.2.2)then(some ((⟨[]⟩:cQ),230))else(if((decide (place<0))||(decide ((l.u'.length:Int)<=place)))then(some ((⟨[]⟩:cQ),2))else((dm r.1.first place).bind fun e=>qm l place e ko e (⟨([]:List ac)⟩:cQ)))
def om(p:aK)(s:be)(d_:(List Int))(l:List bt)(r1:(List Int))(r_:Int):Option (be×aK):=some ((⟨[(⟨9,(-1),(-1),(i64.wrap ((l.length:Int)-1)),r1,false,⟨[]⟩,[],[],[],[],0⟩:ac)],s.j',r_,d_⟩:be),({p with c_:=({p.c_ with J':=l}:dp)}:aK))
def ez(p:aK)(s:be)(way:Int)(d_:(List Int)):Option (be×aK):=(bU d_).bind fun r=>(nH p.c_.J' ([(⟨s.A',s.h_,way,r⟩:bt)])).bind fun l=>(bU s.j').bind fun r1=>if(way==3)then(om p s d_ l r1 2)else(om p s d_ l r1 1)
def eC(p:aK)(s:be):Option (be×aK):=if(s.h_==2)then(some (s,p))else((ez p s 3 ([])).bind fun r=>some (r.1,r.2))
def mu(p:aK)(n:ac)(j':(List Int))(x:(List be)):Option be:=(dm p.catalog.i_ n.M').bind fun e=>some (⟨[n],j',1,e.I'⟩:be)
def fP(s:(List ac)):Option (List ac):=(nH ([]:List ac) s).bind fun x=>some x
def tA(nx1:be->Option be)(g_:be)(x1:ac):Option be:=(nH g_.A' ([x1])).bind fun l6=>nx1 ({g_ with A':=l6}:be)
def tB(out:be)(nx1:be->Option be)(g_:be)(x:ac):Option be:=if(decide (0<=x.B))then(tA nx1 g_ (ac.mk x.Op x.A (i64.wrap (x.B+(out.A'.length:Int))) x.M' x.U' x.Left x.f_ x.I' x.L' x.N' x.Y' x.Z'))else(tA nx1 g_ x)
def eD(nx:Nat->ac->be->Option be)(i:Nat)(n1:ac)(out:be):List ac->be->Option be
 |[],g_=>if((i:Int)==0)then(nx (i+1) (ac.mk n1.Op (i64.wrap ((g_.A'.length:Int)-1)) n1.B n1.M' n1.U' n1.Left n1.f_ n1.I' n1.L' n1.N' n1.Y' n1.Z') g_)else(nx (i+1) (ac.mk n1.Op n1.A (i64.wrap ((g_.A'.length:Int)-1)) n1.M' n1.U' n1.Left n1.f_ n1.I' n1.L' n1.N' n1.Y' n1.Z') g_)
 |e2::tl1,g_=>if(decide (0<=e2.A))then(tB out (eD nx i n1 out tl1) g_ (ac.mk e2.Op (i64.wrap (e2.A+(out.A'.length:Int))) e2.B e2.M' e2.U' e2.Left e2.f_ e2.I' e2.L' e2.N' e2.Y' e2.Z'))else(tB out (eD nx i n1 out tl1) g_ e2)
def gV:List be->Nat->ac->be->Option be
 |[],i,n1,out=>(nH out.A' ([n1])).bind fun l2=>some ({out with A':=l2}:be)
 |e1::tl,i,n1,out=>(fP e1.A').bind fun r=>eD (gV tl) i n1 out r out
def gh(n:ac)(j':(List Int))(l:(List be)):Option be:=(dm l 0).bind fun e=>gV l 0 (ac.mk n.Op (-1) (-1) n.M' n.U' n.Left n.f_ n.I' n.L' n.N' n.Y' n.Z') (⟨([]:List ac),j',e.h_,[]⟩:be)
def ig(s:be)(columns:(List Int)):Option be:=some (be.mk s.A' s.j' s.h_ columns)
def kO(p:aK)(n:ac)(j':(List Int))(l:(List be)):Option be:=(dm l 0).bind fun e=>(gh n j' ([e])).bind fun r=>(ig r e.V').bind fun r1=>some r1
def gw(v:Int):List Int->Nat->Option Int
 |[],i=>some (-1)
 |e::tl,i=>if(v==e)then(some (i:Int))else((gw v tl) (i+1))
def fN(s:(List Int))(v:Int):Option Int:=gw v s 0
def pj(of:(List Int))(n_:(List Int)):List Int->(List Int)->Option ((List Int)×Bool)
  |[],out=>some (out,decide (0<(of.length:Int)))
  |e::tl,out=>(fN n_ e).bind fun r=>if(decide (r<0))then(some ([],false))else((nH out ([r])).bind fun g_=>(pj of n_ tl) g_)
def qL(of:(List Int))(n_:(List Int)):Option ((List Int)×Bool):=pj of n_ of ([]:List Int)
def dw(n:ac)(j':(List Int))(l:(List be)):List bD->Nat->(List Int)->Option be
  |[],i1,bare=>(dm l 0).bind fun e1=>(qL e1.V' bare).bind fun r=>(gh n j' ([e1])).bind fun r1=>(ig r1 r.1).bind fun r2=>some r2
  |e::tl,i1,bare=>(dm bare (i1:Int)).bind fun e2=>(some (bare.set (i1:Int).toNat (-1))).bind fun st=>(if((e.u'.length:Int)==1)then((dm e.u' 0).bind fun e3=>some (e3.Tag==2))else some false).bind fun t=>if t then((dm e.u' 0).bind fun e4=>(dm st (i1:Int)).bind fun e5=>(some (st.set (i1:Int).toNat e4.y_)).bind fun st1=>(dw n j' l tl) (i1+1) st1)else((dw n j' l tl) (i1+1) st)
def kf(p:aK)(n:ac)(j':(List Int))(l:(List be)):Option be:=(yN (n.N'.length:Int) 0).bind fun mk=>dw n j' l n.N' 0 mk
def ed(f:(bw->Option Bool)):List bw->Nat->Option Int
 |[],i=>some (-1)
 |e::tl,i=>(f e).bind fun r=>if r then(some (i:Int))else((ed f tl) (i+1))
def js(s:(List bw))(f:(bw->Option Bool)):Option Int:=ed f s 0
def fF(s:(List bw))(f:(bw->Option Bool)):Option Bool:=(js s f).bind fun r=>some (decide (0<=r))
def vf(n:bw):Option Bool:=(vv n.Tag).bind fun r=>some r
def uw(e:bD):Option Bool:=(sv e).bind fun r=>(if(r==0)then((fF e.u' vf).bind fun r1=>some (!r1))else some false).bind fun t=>some t
def tQ(nx:(List bD)->(List Int)->Option (List bD))(g_:List bD)(open2:List Int):Option (List bD):=nx g_ open2
def tP(e3:Int)(nx1:Nat->bD->Option (List bD))(i:Nat)(part1:bD):Option (List bD):=(dm part1.u' (i:Int)).bind fun e6=>if(decide (0<=e6.R))then((some (part1.u'.set (i:Int).toNat ({e6 with R:=(i64.wrap (e6.R-e3))}:bw))).bind fun st=>nx1 (i+1) ({part1 with u':=st}:bD))else(nx1 (i+1) part1)
def mX(nx:(List bD)->(List Int)->Option (List bD))(out:List bD)(y:List Int)(e3:Int):List bw->Nat->bD->Option (List bD)
  |[],i,part=>(nH out ([part])).bind fun out2=>tQ nx out2 y
  |e4::tl,i,part=>(dm part.u' (i:Int)).bind fun e5=>if(decide (0<=e5.L))then((some (part.u'.set (i:Int).toNat ({e5 with L:=(i64.wrap (e5.L-e3))}:bw))).bind fun st1=>tP e3 (mX nx out y e3 tl) i ({part with u':=st1}:bD))else(tP e3 (mX nx out y e3 tl) i part)
def kJ(e:bD)(r:(List Int)×Bool):Nat->(List bD)->(List Int)->Option (List bD)
  |0,_,_=>none
  |n+1,out,open1=>if(decide (0<(open1.length:Int)))then((dm open1 (i64.wrap ((open1.length:Int)-1))).bind fun e1=>(fz open1 0 (i64.wrap ((open1.length:Int)-1))).bind fun y=>(dm e.u' e1).bind fun e2=>if(e2.Tag==22)then((nH y ([e2.R,e2.L])).bind fun open3=>tQ (kJ e r n) out open3)else((dm r.1 e1).bind fun e3=>(fz e.u' e3 (i64.wrap (e1+1))).bind fun y1=>(co y1).bind fun r1=>mX (kJ e r n) out y e3 r1 0 (⟨r1⟩:bD)))else(some out)
def wd(e:bD):Option (List bD):=(ve e).bind fun r=>if(!r.2)then(some ([]:List bD))else(kJ e r ko ([]:List bD) ([(i64.wrap ((e.u'.length:Int)-1))]))
def wc(e:bD)(left:Int):Option (Int×Int×Bool):=(sv e).bind fun r=>(if(!((r !=0)||((e.u'.length:Int) !=3)))then((dm e.u' 2).bind fun e1=>some (e1.Tag !=16))else some true).bind fun t=>if t then(some (0,0,false))else((dm e.u' 0).bind fun e2=>(dm e.u' 1).bind fun e3=>if((e2.Tag !=2)||(e3.Tag !=2))then(some (0,0,false))else(if((decide (left<=(min e2.y_ e3.y_)))||(decide ((max e2.y_ e3.y_)<left)))then(some (0,0,false))else(some ((min e2.y_ e3.y_),(i64.wrap ((max e2.y_ e3.y_)-left)),true))))
def uM(nx:(List Int)->(List Int)->Option ((List Int)×(List Int)))(a2:List Int)(b1:List Int):Option ((List Int)×(List Int)):=nx a2 b1
def m5(left:Int):List bD->(List Int)->(List Int)->Option ((List Int)×(List Int))
  |[],a1,b=>some (a1,b)
  |e::tl,a1,b=>(wc e left).bind fun r1=>if(!r1.2.2)then((uw e).bind fun r2=>if(!r2)then(some ([],[]))else(uM (m5 left tl) a1 b))else(if(decide ((a1.length:Int)<16))then((nH a1 ([r1.1])).bind fun a3=>(nH b ([r1.2.1])).bind fun b3=>uM (m5 left tl) a3 b3)else(uM (m5 left tl) a1 b))
def yZ(cond:bD)(left:Int):Option ((List Int)×(List Int)):=(wd cond).bind fun r=>m5 left r ([]:List Int) ([]:List Int)
def nf(other:(List Int))(r:(List Int)×Bool):List Int->(List Int)->Option ((List Int)×Bool)
 |[],out=>some (out,r.2)
 |e::tl,out=>(dm other e).bind fun e1=>(nH out ([e1])).bind fun g_=>(nf other r tl) g_
def lN(of:(List Int))(n_:(List Int))(other:(List Int)):Option ((List Int)×Bool):=(qL of n_).bind fun r=>nf other r r.1 ([]:List Int)
def iX(n:ac)(j':(List Int))(a1:be)(b2:be)(ob:aK):Option (be×aK):=(gh n j' ([a1,b2])).bind fun r7=>(ig r7 a1.V').bind fun r8=>some (r8,ob)
def mw(p:aK)(n:ac)(j':(List Int))(l:(List be)):Option (be×aK):=(dm l 0).bind fun e=>(dm l 1).bind fun e1=>if((e.h_==2)||(e1.h_==2))then((eC p e).bind fun r=>(eC r.2 e1).bind fun r1=>(gh n j' ([r.1,r1.1])).bind fun r2=>some (r2,r1.2))else((yZ n.f_ (e.j'.length:Int)).bind fun r3=>if((r3.1.length:Int)==0)then((ez p e1 2 ([])).bind fun r4=>(gh n j' ([e,r4.1])).bind fun r5=>(ig r5 e.V').bind fun r6=>some (r6,r4.2))else((lN e.V' r3.1 r3.2).bind fun r9=>if r9.2 then((fO e1.V' r9.1).bind fun r10=>if(!r10)then((ez p e1 1 r9.1).bind fun r11=>iX n j' e r11.1 r11.2)else(iX n j' e e1 p))else((lN e1.V' r3.2 r3.1).bind fun r12=>if r12.2 then((ez p e 1 r12.1).bind fun r13=>iX n j' r13.1 e1 r13.2)else((ez p e 1 r3.1).bind fun r14=>(ez r14.2 e1 1 r3.2).bind fun r15=>iX n j' r14.1 r15.1 r15.2))))
def q7(n:Int):Nat->(List Int)->Int->Option (List Int)
  |0,_,_=>none
  |n1+1,out,x=>if(decide (x<n))then((nH out ([x])).bind fun g_=>(q7 n n1) g_ (i64.wrap (x+1)))else(some out)
def vZ(n:Int):Option (List Int):=q7 n ko ([]:List Int) 0
def ii(n:ac):List fh->Nat->(List Int)->Option (List Int)
  |[],i,out=>some out
  |e::tl,i,out=>if(e.Tag==3)then((dm out (i64.wrap ((n.I'.length:Int)+(i:Int)))).bind fun e1=>(some (out.set (i64.wrap ((n.I'.length:Int)+(i:Int))).toNat 4)).bind fun st=>(ii n tl) (i+1) st)else((ii n tl) (i+1) out)
def tz(n:ac)(j':(List Int)):Option (List Int):=(bU j').bind fun r=>ii n n.L' 0 r
def gr(j':(List Int))(r4:(List Int))(r7:be×aK):List fh->ac->Option (be×aK)
 |[],last=>(gh last j' ([r7.1])).bind fun r8=>(ig r8 r4).bind fun r9=>some (r9,r7.2)
 |e1::tl,last=>(nH last.L' ([(⟨e1.Tag,⟨[]⟩⟩:fh)])).bind fun l3=>(gr j' r4 r7 tl) ({last with L':=l3}:ac)
def lq(p:aK)(n:ac)(j':(List Int))(e:be)(r4:(List Int))(way:Int):Option (be×aK):=(tz (ac.mk 10 n.A n.B n.M' n.U' n.Left n.f_ n.I' n.L' n.N' n.Y' n.Z') j').bind fun r5=>(gh (ac.mk 10 n.A n.B n.M' n.U' n.Left n.f_ n.I' n.L' n.N' n.Y' n.Z') r5 ([e])).bind fun r6=>(ez p r6 way r4).bind fun r7=>gr j' r4 r7 n.L' (⟨11,0,0,0,[],false,⟨[]⟩,r4,([]:List fh),[],[],0⟩:ac)
def lD(p:aK)(n:ac)(j':(List Int))(l:(List be)):Option (be×aK):=(dm l 0).bind fun e=>if(e.h_==2)then((gh n j' ([e])).bind fun r=>some (r,p))else((qL e.V' n.I').bind fun r1=>if r1.2 then((gh n j' ([e])).bind fun r2=>(ig r2 r1.1).bind fun r3=>some (r3,p))else((vZ (n.I'.length:Int)).bind fun r4=>if((r4.length:Int)==0)then(lq p n j' e r4 3)else(lq p n j' e r4 1)))
def jG(p:aK)(n:ac)(j':(List Int))(l:(List be)):Option (be×aK):=(dm l 0).bind fun e=>if((e.h_==2)||(decide (0<(e.V'.length:Int))))then((gh n j' ([e])).bind fun r=>(ig r e.V').bind fun r1=>some (r1,p))else((vZ (j'.length:Int)).bind fun r2=>(ez p e 1 r2).bind fun r3=>(gh n j' ([r3.1])).bind fun r4=>(ig r4 r2).bind fun r5=>some (r5,r3.2))
def qu(ob:aK)(out:be):Option (be×aK):=some (out,ob)
def iy(n:ac)(j':(List Int))(a1:be)(b2:be)(ob:aK):Option (be×aK):=(gh n j' ([a1,b2])).bind fun r=>(if(a1.h_==1)then((fO a1.V' b2.V').bind fun r1=>some r1)else some false).bind fun t=>if t then(qu ob (be.mk r.A' r.j' r.h_ a1.V'))else(qu ob r)
def lB(p:aK)(n:ac)(j':(List Int))(l:(List be)):Option (be×aK):=(dm l 0).bind fun e=>(dm l 1).bind fun e1=>if(e.h_ !=e1.h_)then((eC p e).bind fun r2=>(eC r2.2 e1).bind fun r3=>iy n j' r2.1 r3.1 r3.2)else(iy n j' e e1 p)
def lC(p:aK)(n:ac)(j':(List Int))(l:(List be)):Option (be×aK):=(dm l 0).bind fun e=>(gh n j' ([e])).bind fun r=>if(r.h_==2)then(some (r,p))else((eC p r).bind fun r1=>(gh n j' ([r1.1])).bind fun r2=>some (r2,r1.2))
def cO(self__:aK->Int->Option (be×aK))(r_:Int)(e:ac):Nat->Nat->(List be)->aK->Option (be×aK)
  |0,i,parts,ob=>(dm ob.j' r_).bind fun e2=>(((jC (dC (dC (dC (dC (dC (dC (dC (dC ([]:List (Int×(aK->(ac×(List Int)×(List be))->Option (be×aK)))) 1 (fun(mc:aK) (mx:ac×(List Int)×(List be))=>(mu mc mx.1 mx.2.1 mx.2.2).map fun mr=>(mr,mc))) 3 (fun(mc:aK) (mx:ac×(List Int)×(List be))=>(kO mc mx.1 mx.2.1 mx.2.2).map fun mr=>(mr,mc))) 5 (fun(mc:aK) (mx:ac×(List Int)×(List be))=>(kf mc mx.1 mx.2.1 mx.2.2).map fun mr=>(mr,mc))) 2 (fun(mc:aK) (mx:ac×(List Int)×(List be))=>mw mc mx.1 mx.2.1 mx.2.2)) 4 (fun(mc:aK) (mx:ac×(List Int)×(List be))=>lD mc mx.1 mx.2.1 mx.2.2)) 6 (fun(mc:aK) (mx:ac×(List Int)×(List be))=>jG mc mx.1 mx.2.1 mx.2.2)) 7 (fun(mc:aK) (mx:ac×(List Int)×(List be))=>lB mc mx.1 mx.2.1 mx.2.2)) 8 (fun(mc:aK) (mx:ac×(List Int)×(List be))=>lC mc mx.1 mx.2.1 mx.2.2)) e.Op).getD (fun _ _=>none)) ob (e,e2,parts)).bind fun r=>some (r.1,r.2)
  |k1+1,i,parts,ob=>(dm ([e.A,e.B]) (i:Int)).bind fun e3=>if(decide (0<=e3))then((self__ ob e3).bind fun r1=>(nH parts ([r1.1])).bind fun parts1=>(cO self__ r_ e k1) (i+1) parts1 r1.2)else((cO self__ r_ e k1) (i+1) parts ob)
def eO:Nat->aK->Int->Option (be×aK)
 |0,_,_=>none
 |fu+1,p,r_=>(dm p.tree.u' r_).bind fun e=>cO (eO fu) r_ e 2 0 ([]:List be) p
def tw(p:aK)(r_:Int):Option (be×aK):=eO ko p r_
def sN(f:bt):Option Bool:=some (decide (60<(f.u'.length:Int)))
def eu(f:(bt->Option Bool)):List bt->Nat->Option Int
 |[],i=>some (-1)
 |e::tl,i=>(f e).bind fun r=>if r then(some (i:Int))else((eu f tl) (i+1))
def jZ(s:(List bt))(f:(bt->Option Bool)):Option Int:=eu f s 0
def gc(s:(List bt))(f:(bt->Option Bool)):Option Bool:=(jZ s f).bind fun r=>some (decide (0<=r))
def oo(l:cQ):List ac->Nat->aK->Option (dp×Int)
  |[],i,ob=>(tw ob (i64.wrap ((l.u'.length:Int)-1))).bind fun r3=>(eC r3.2 r3.1).bind fun r4=>(nH r4.2.c_.J' ([(⟨r4.1.A',2,4,[]⟩:bt)])).bind fun l3=>(if(!(decide (30<(l3.length:Int))))then((gc l3 sN).bind fun r5=>some r5)else some true).bind fun t=>if t then(some ((⟨[]⟩:dp),3))else(some (({r4.2 with c_:=({r4.2.c_ with J':=l3}:dp)}:aK).c_,0))
  |e::tl,i,ob=>(y8 l (i:Int)).bind fun r6=>(qR r6.1).bind fun r7=>(nH ob.j' ([r7.1])).bind fun l4=>(oo l tl) (i+1) ({ob with j':=l4}:aK)
def v7(l:cQ)(c:bo):Option (dp×Int):=(xo l).bind fun r=>if(r.2 !=0)then(some ((⟨[]⟩:dp),r.2))else((rN c).bind fun r1=>if(r1 !=0)then(some ((⟨[]⟩:dp),r1))else((Co l c).bind fun r2=>if(!r2)then(some ((⟨[]⟩:dp),2))else(oo l l.u' 0 (⟨⟨[]⟩,l,c,[]⟩:aK))))
def Fv:Option bo:=some (⟨[(⟨[116],[(⟨[97],2⟩:cc),(⟨[98],2⟩:cc)],[0]⟩:de),(⟨[117],[(⟨[99],2⟩:cc)],[]⟩:de)]⟩:bo)
def Hn(p:dp)(w_:Int)(A':Int):Option Int:=if(((((decide (30<(p.J'.length:Int)))||(decide (w_<0)))||(decide ((p.J'.length:Int)<=w_)))||(decide (A'<1)))||(decide (8<A')))then(some 2)else(some 0)
def nd{Sg:Type}(j_:Int)(D_:(Int×Int)->Sg->Option (Bool×Sg))(nx:Nat->Sg->Option Sg)(i:Nat):List ac->Nat->Sg->Option Sg
  |[],i1,s2=>nx (i+1) s2
  |e4::tl1,i1,s2=>if((e4.Op==9)&&(e4.M'==j_))then((D_ ((i:Int),(i1:Int)) s2).bind fun r=>if(!r.1)then(some r.2)else((nd j_ D_ nx i tl1) (i1+1) r.2))else((nd j_ D_ nx i tl1) (i1+1) s2)
def ne{Sg:Type}(j_:Int)(D_:(Int×Int)->Sg->Option (Bool×Sg)):List bt->Nat->Sg->Option Sg
 |[],i,s1=>some s1
 |e2::tl,i,s1=>nd j_ D_ (ne j_ D_ tl) i e2.u' 0 s1
def xG{Sg:Type}(p:dp)(j_:Int)(D_:(Int×Int)->Sg->Option (Bool×Sg))(s:Sg):Option Sg:=ne j_ D_ p.J' 0 s
def u4(p:dp)(j_:Int):Option (It (Int×Int)):=some (fun _=>xG p j_)
def An(x:Int×Int)(x1:Bool)(x2:Int)(x3:Int):Option (Option Nat×(Bool×Int×Int)):=some (some 0,(true,x.2,x.1))
def u6(p:dp)(j_:Int):Option (Int×Int×Bool):=(u4 p j_).bind fun it=>((itU it) (Option Nat×(Bool×Int×Int)) (B0 (fun x s=>An x s.1 s.2.1 s.2.2)) (none,(false,0,0))).bind fun r=>if r.1.1.isNone then(some (0,0,false))else(some (r.1.2.2.2,r.1.2.2.1,r.1.2.1))
def Fn(p:dp)(w_:Int):Option Int:=(u6 p w_).bind fun r=>if r.2.2 then(some r.1)else(some (-1))
def Cn(f:bt)(A':Int):Option (List Int):=if(f.At==2)then(some ([0]))else((vZ (i64.wrap (A'+1))).bind fun r=>(fz r 1 (r.length:Int)).bind fun y=>some y)
def xI{Sg:Type}(nx:Nat->Sg->Option Sg)(i:Nat)(s2:Sg):Option Sg:=nx (i+1) s2
def xH{Sg:Type}(D_:(hJ×Int)->Sg->Option (Bool×Sg))(i:Nat)(r:Int)(nx1:Sg->Option Sg)(e5:Int):List Int->Sg->Option Sg
 |[],s4=>nx1 s4
 |e8::tl2,s4=>(D_ ((⟨(i:Int),e5,e8⟩:hJ),r) s4).bind fun r3=>if(!r3.1)then(some r3.2)else((xH D_ i r nx1 e5 tl2) r3.2)
def uN{Sg:Type}(p:dp)(A':Int)(D_:(hJ×Int)->Sg->Option (Bool×Sg))(nx:Nat->Sg->Option Sg)(i:Nat)(r:Int):List Int->Sg->Option Sg
 |[],s3=>xI nx i s3
 |e5::tl1,s3=>(dm p.J' r).bind fun e6=>(Cn e6 A').bind fun r2=>xH D_ i r (uN p A' D_ nx i r tl1) e5 r2 s3
def oJ{Sg:Type}(p:dp)(A':Int)(D_:(hJ×Int)->Sg->Option (Bool×Sg)):List bt->Nat->Sg->Option Sg
  |[],i,s1=>some s1
  |e2::tl,i,s1=>(Fn p (i:Int)).bind fun r=>if(decide (r<0))then(xI (oJ p A' D_ tl) i s1)else((Cn e2 A').bind fun r1=>uN p A' D_ (oJ p A' D_ tl) i r r1 s1)
def Cp{Sg:Type}(p:dp)(A':Int)(D_:(hJ×Int)->Sg->Option (Bool×Sg))(s:Sg):Option Sg:=oJ p A' D_ p.J' 0 s
def ME(p:dp)(A':Int):Option (It (hJ×Int)):=some (fun _=>Cp p A')
def Db(holds:(hJ->Int->Option Bool))(x:hJ×Int)(xs:List hJ):Option (List hJ):=(holds x.1 x.2).bind fun r=>if r then((nH xs ([x.1])).bind fun l1=>some l1)else(some xs)
def Jk(p:dp)(A':Int)(holds:(hJ->Int->Option Bool)):Option (List hJ):=(ME p A').bind fun it=>(it (List hJ) (DM (fun x s=>Db holds x s)) ([]:List hJ)).bind fun xs1=>some xs1
def Ao(p:hJ)(p1:Int):Option Bool:=some true
def Dc(p:dp)(A':Int):Option ((List hJ)×Int):=(Hn p 0 A').bind fun r=>if(r !=0)then(some ([],r))else((Jk p A' Ao).bind fun r1=>some (r1,0))
def Ax:Option Bool:=(Fv).bind fun r=>(v7 (⟨[(⟨1,(-1),(-1),1,[2],false,⟨[]⟩,[],[],[],[],0⟩:ac),(⟨4,0,(-1),0,[],false,⟨[]⟩,[],[(⟨1,⟨[]⟩⟩:fh)],[],[],0⟩:ac)]⟩:cQ) r).bind fun r1=>(Dc r1.1 3).bind fun r2=>(if(((r1.2==0)&&(r2.2==0))&&((r1.1.J'.length:Int)==2))then((dm r1.1.J' 0).bind fun e=>some ((e.u'.length:Int)==2))else some false).bind fun t=>(if t then((dm r1.1.J' 0).bind fun e1=>(dm e1.u' 1).bind fun e2=>some (e2.Op==10))else some false).bind fun t1=>some (t1&&((r2.1.length:Int)==3))
def ot:List bw->Option Bool
 |[]=>some false
 |e1::tl=>if(decide (200<(e1.Value.S.length:Int)))then(some true)else((ot tl))
def pm(e:bD):Option Bool:=if(decide (100<(e.u'.length:Int)))then(some true)else(ot e.u')
def rF(nx:Option Bool):List fh->Option Bool
 |[]=>nx
 |e2::tl2=>(pm e2.N_).bind fun r1=>if r1 then(some true)else((rF nx tl2))
def rG(nx:Option Bool)(e:ac):List bD->Option Bool
 |[]=>rF nx e.L'
 |e1::tl1=>(pm e1).bind fun r2=>if r2 then(some true)else((rG nx e tl1))
def m6:List ac->Option Bool
  |[]=>some false
  |e::tl=>(if(!(((((decide (20<(e.U'.length:Int)))||(decide (20<(e.I'.length:Int))))||(decide (20<(e.Y'.length:Int))))||(decide (20<(e.N'.length:Int))))||(decide (20<(e.L'.length:Int)))))then((pm e.f_).bind fun r=>some r)else some true).bind fun t=>if t then(some true)else(rG (m6 tl) e e.N')
def zd(l:(List ac)):Option Bool:=if(decide (65<(l.length:Int)))then(some true)else(m6 l)
def kP(nx:Option Bool):List cc->Option Bool
 |[]=>nx
 |e1::tl1=>if(decide (60<(e1.Name.length:Int)))then(some true)else((kP nx tl1))
def jx:List de->Option Bool
 |[]=>some false
 |e::tl=>if(((decide (10<(e.b_.length:Int)))||(decide (10<(e.I'.length:Int))))||(decide (60<(e.Name.length:Int))))then(some true)else(kP (jx tl) e.b_)
def ra(c:bo):Option Bool:=if(decide (10<(c.i_.length:Int)))then(some true)else(jx c.i_)
def qZ(k:Int):Option Bool:=some ((decide (k<1))||(decide (3<k)))
def lX(l:ap):Option (Bool×ap):=(dr ((({l with B':=l.n.U'}:ap).n).U') qZ).bind fun r=>some ((((((!r)&&(decide (0<=((({l with B':=l.n.U'}:ap).n).M'))))&&(decide (((({l with B':=l.n.U'}:ap).n).M')<4)))&&(decide (0<(((({l with B':=l.n.U'}:ap).n).U').length:Int))))&&(decide ((((({l with B':=l.n.U'}:ap).n).U').length:Int)<=4))),({l with B':=l.n.U'}:ap))
def qz(k:Int):Option Bool:=some ((decide (k<0))||(decide (4<k)))
def jU(l:ap):Option (Bool×ap):=(dr ((({l with B':=l.n.U'}:ap).n).U') qz).bind fun r=>some ((((((!r)&&(decide (0<=((({l with B':=l.n.U'}:ap).n).M'))))&&(decide (((({l with B':=l.n.U'}:ap).n).M')<30)))&&(decide (0<(((({l with B':=l.n.U'}:ap).n).U').length:Int))))&&(decide ((((({l with B':=l.n.U'}:ap).n).U').length:Int)<=16))),({l with B':=l.n.U'}:ap))
def nC(e:bD)(j':(List Int)):Option Bool:=(nm e j').bind fun r=>some ((r.2==0)&&((r.1==0)||(r.1==1)))
def lY(l:ap):Option (Bool×ap):=(jE ([l.a_,l.b])).bind fun r=>(nC ((({l with B':=r}:ap).n).f_) (({l with B':=r}:ap).B')).bind fun r1=>some (r1,({l with B':=r}:ap))
def ke(l:ap):Option (Bool×ap):=(nC ((({l with B':=l.a_}:ap).n).f_) (({l with B':=l.a_}:ap).a_)).bind fun r=>some (r,({l with B':=l.a_}:ap))
def fZ(nx1:Bool->ap->Option (Bool×ap))(v_:ap)(ok1:Bool)(k:Int):Option (Bool×ap):=(nH v_.B' ([k])).bind fun l7=>nx1 ok1 ({v_ with B':=l7}:ap)
def j4(nx1:Bool->ap->Option (Bool×ap))(e1:fh)(ok:Bool)(v_:ap)(r:Int×Int)(x:Bool):Option (Bool×ap):=if x then(fZ nx1 v_ (((ok&&(r.2==0))&&(decide (1<e1.Tag)))&&(decide (e1.Tag<=5))) r.1)else(fZ nx1 v_ (((ok&&(r.2==0))&&(decide (1<e1.Tag)))&&(decide (e1.Tag<=5))) 2)
def cP:List fh->Bool->ap->Option (Bool×ap)
  |[],ok,v_=>some (ok,v_)
  |e1::tl1,ok,v_=>if(e1.Tag==1)then(fZ (cP tl1) v_ (ok&&((e1.N_.u'.length:Int)==0)) 2)else((nm e1.N_ v_.a_).bind fun r=>if(e1.Tag==3)then(fZ (cP tl1) v_ ((((ok&&(r.2==0))&&(decide (1<e1.Tag)))&&(decide (e1.Tag<=5)))&&((r.1==2)||(r.1==0))) 2)else(if(e1.Tag==4)then(j4 (cP tl1) e1 ok v_ r (e1.Tag==4))else(j4 (cP tl1) e1 ok v_ r (e1.Tag==5))))
def fY(l:ap):List Int->ap->Option (Bool×ap)
  |[],ob=>cP l.n.L' (((decide ((l.n.I'.length:Int)<=3))&&(decide ((l.n.L'.length:Int)<=12)))&&(decide (0<(i64.wrap ((l.n.I'.length:Int)+(l.n.L'.length:Int)))))) ob
  |e::tl,ob=>if((decide (e<0))||(decide ((ob.a_.length:Int)<=e)))then(some (false,ob))else((dm ob.a_ e).bind fun e2=>(nH ob.B' ([e2])).bind fun l9=>(fY l tl) ({ob with B':=l9}:ap))
def gv(l:ap):Option (Bool×ap):=fY l l.n.I' ({l with B':=([]:List Int)}:ap)
def fQ:List fh->Nat->ap->Option (Bool×ap)
  |[],i1,ob=>some (true,ob)
  |e::tl,i1,ob=>if(e.Tag==3)then((dm ob.B' (i64.wrap ((ob.n.I'.length:Int)+(i1:Int)))).bind fun e1=>(some (ob.B'.set (i64.wrap ((ob.n.I'.length:Int)+(i1:Int))).toNat 4)).bind fun st=>(fQ tl) (i1+1) ({ob with B':=st}:ap))else((fQ tl) (i1+1) ob)
def jA(l:ap):Option (Bool×ap):=(gv l).bind fun r=>if(!r.1)then(some (false,r.2))else(fQ r.2.n.L' 0 r.2)
def nD(nx1:Nat->Bool->ap->Option (Bool×ap))(i1:Nat)(e2:fh)(ok1:Bool)(ob:ap)(e3:Int)(x1:Bool):Option (Bool×ap):=if x1 then(nx1 (i1+1) ((ok1&&((e2.N_.u'.length:Int)==0))&&(e3 !=4)) ob)else(nx1 (i1+1) false ob)
def j5(l:ap)(nx1:Nat->Bool->ap->Option (Bool×ap))(i1:Nat)(e2:fh)(ok1:Bool)(ob:ap)(e3:Int)(x:Bool):Option (Bool×ap):=if x then(nx1 (i1+1) ((ok1&&((e2.N_.u'.length:Int)==0))&&(e3==2)) ob)else(if(e2.Tag==3)then((dm ob.B' (i64.wrap ((l.n.I'.length:Int)+(i1:Int)))).bind fun e4=>(some (ob.B'.set (i64.wrap ((l.n.I'.length:Int)+(i1:Int))).toNat 2)).bind fun st=>nx1 (i1+1) ((ok1&&((e2.N_.u'.length:Int)==0))&&(e3==4)) ({ob with B':=st}:ap))else(if(e2.Tag==4)then(nD nx1 i1 e2 ok1 ob e3 (e2.Tag==4))else(nD nx1 i1 e2 ok1 ob e3 (e2.Tag==5))))
def dd(l:ap):List fh->Nat->Bool->ap->Option (Bool×ap)
 |[],i1,ok1,ob=>some (ok1,ob)
 |e2::tl1,i1,ok1,ob=>(dm ob.a_ (i64.wrap ((l.n.I'.length:Int)+(i1:Int)))).bind fun e3=>if(e2.Tag==1)then(j5 l (dd l tl1) i1 e2 ok1 ob e3 (e2.Tag==1))else(j5 l (dd l tl1) i1 e2 ok1 ob e3 (e2.Tag==2))
def iW(l:ap)(r:(List Int)):List Int->Nat->Bool->Option (Bool×ap)
  |[],i,ok=>dd l l.n.L' 0 ok ({l with B':=r}:ap)
  |e1::tl,i,ok=>(if(ok&&(e1==(i:Int)))then((dm l.a_ (i:Int)).bind fun e5=>some (e5 !=4))else some false).bind fun t=>(iW l r tl) (i+1) t
def kV(l:ap):Option (Bool×ap):=(dm l.A' l.n.A).bind fun e=>if(!((((e.Op==9)&&(decide ((l.n.I'.length:Int)<=3)))&&(decide ((l.n.L'.length:Int)<=12)))&&((i64.wrap ((l.n.I'.length:Int)+(l.n.L'.length:Int)))==(l.a_.length:Int))))then(some (false,l))else((bU l.a_).bind fun r=>iW l r l.n.I' 0 ((((e.Op==9)&&(decide ((l.n.I'.length:Int)<=3)))&&(decide ((l.n.L'.length:Int)<=12)))&&((i64.wrap ((l.n.I'.length:Int)+(l.n.L'.length:Int)))==(l.a_.length:Int))))
def iU:List bD->ap->Option (Bool×ap)
  |[],ob=>some (decide (0<(ob.B'.length:Int)),ob)
  |e::tl,ob=>(nm e ob.a_).bind fun r=>if(r.2 !=0)then(some (false,ob))else((nH ob.B' ([r.1])).bind fun l4=>(iU tl) ({ob with B':=l4}:ap))
def mp(l:ap):Option (Bool×ap):=iU l.n.N' ({l with B':=([]:List Int)}:ap)
def nX(l:ap):Option (Bool×ap):=some (true,({l with B':=l.a_}:ap))
def gU(nx:Nat->ap->Option (Bool×ap))(i:Nat)(ob:ap)(e1:Int)(k:Int):Option (Bool×ap):=if((e1 !=0)&&(e1 !=k))then(some (false,ob))else((nH ob.B' ([k])).bind fun l4=>nx (i+1) ({ob with B':=l4}:ap))
def d7:List Int->Nat->ap->Option (Bool×ap)
 |[],i,ob=>some (true,ob)
 |e::tl,i,ob=>(dm ob.b (i:Int)).bind fun e1=>if(e==0)then(gU (d7 tl) i ob e1 e1)else(gU (d7 tl) i ob e1 e)
def kT(l:ap):Option (Bool×ap):=if((l.a_.length:Int) !=(l.b.length:Int))then(some (false,l))else(d7 l.a_ 0 ({l with B':=([]:List Int)}:ap))
def pg(l:ap)(o:px):Option Bool:=some ((decide (o.y_<0))||(decide ((l.a_.length:Int)<=o.y_)))
def lW(l:ap):Option (Bool×ap):=(eZ ((({l with B':=l.a_}:ap).n).Y') (pg ({l with B':=l.a_}:ap))).bind fun r=>some (((((!r)&&(decide ((((({l with B':=l.a_}:ap).n).Y').length:Int)<=3)))&&(decide ((-1)<=((({l with B':=l.a_}:ap).n).Z'))))&&(decide (((({l with B':=l.a_}:ap).n).Z')<=2147483647))),({l with B':=l.a_}:ap))
def sM:Option (List (Int×(ap->Unit->Option (Bool×ap)))):=some (dC (dC (dC (dC (dC (dC (dC (dC (dC (dC (dC ([]:List (Int×(ap->Unit->Option (Bool×ap)))) 1 (fun(mc:ap) (mx:Unit)=>lX mc)) 9 (fun(mc:ap) (mx:Unit)=>jU mc)) 2 (fun(mc:ap) (mx:Unit)=>lY mc)) 3 (fun(mc:ap) (mx:Unit)=>ke mc)) 4 (fun(mc:ap) (mx:Unit)=>gv mc)) 10 (fun(mc:ap) (mx:Unit)=>jA mc)) 11 (fun(mc:ap) (mx:Unit)=>kV mc)) 5 (fun(mc:ap) (mx:Unit)=>mp mc)) 6 (fun(mc:ap) (mx:Unit)=>nX mc)) 7 (fun(mc:ap) (mx:Unit)=>kT mc)) 8 (fun(mc:ap) (mx:Unit)=>lW mc))
def ft(s:(List Int))(v:Int):Option Bool:=(fN s v).bind fun r=>some (decide (0<=r))
def lM(x2:Bool):Option Int:=if x2 then(some 1)else(some (-1))
def uG(op:Int)(x1:Bool):Option Int:=if x1 then(some 2)else(if(op==3)then(lM (op==3))else(if(op==4)then(lM (op==4))else(if(op==5)then(lM (op==5))else(if(op==6)then(lM (op==6))else(if(op==8)then(lM (op==8))else(if(op==10)then(lM (op==10))else(lM (op==11))))))))
def uH(op:Int)(x:Bool):Option Int:=if x then(some 0)else(if(op==2)then(uG op (op==2))else(uG op (op==7)))
def yY(op:Int):Option Int:=if(op==1)then(uH op (op==1))else(uH op (op==9))
def uj(n:ac):Option Bool:=some ((((((((n.Op==1)||(n.Op==9))||((n.M'==0)&&((n.U'.length:Int)==0)))&&((n.Op==2)||(!n.Left)))&&(((n.Op==2)||(n.Op==3))||((n.f_.u'.length:Int)==0)))&&((((n.Op==4)||(n.Op==10))||(n.Op==11))||((i64.wrap ((n.I'.length:Int)+(n.L'.length:Int)))==0)))&&((n.Op==5)||((n.N'.length:Int)==0)))&&((n.Op==8)||(((n.Y'.length:Int)==0)&&(n.Z'==0))))
def bp(l:ap)(i:Int)(ask:(ap->Unit->Option (Bool×ap)))(e:ac)(r:Int):List Int->Nat->(List Int)->(List Int)->Option (Bool×ap)
  |[],i5,a_,b3=>if(((e.Op==8)||(e.Op==10))&&(i !=(i64.wrap (((({({({({({l with n:=e}:ap)with a_:=[]}:ap)with b:=[]}:ap)with a_:=a_}:ap)with b:=b3}:ap).A').length:Int)-1))))then(some (false,({({({({({l with n:=e}:ap)with a_:=[]}:ap)with b:=[]}:ap)with a_:=a_}:ap)with b:=b3}:ap)))else((ask ({({({({({l with n:=e}:ap)with a_:=[]}:ap)with b:=[]}:ap)with a_:=a_}:ap)with b:=b3}:ap) ()).bind fun r2=>if((!r2.1)||(decide (16<(r2.2.B'.length:Int))))then(some (false,r2.2))else((nH r2.2.j' ([r2.2.B'])).bind fun l1=>(fz r2.2.D' 0 (i64.wrap ((r2.2.D'.length:Int)-r))).bind fun y2=>(nH y2 ([i])).bind fun l2=>some (true,({({r2.2 with j':=l1}:ap)with D':=l2}:ap))))
  |e1::tl,i5,a_,b3=>(dm l.j' e1).bind fun e2=>(if(e.Op !=11)then((ft e2 4).bind fun r3=>some r3)else some false).bind fun t1=>if t1 then(some (false,({({({({({l with n:=e}:ap)with a_:=[]}:ap)with b:=[]}:ap)with a_:=a_}:ap)with b:=b3}:ap)))else(if((i5:Int)==0)then((bp l i ask e r tl) (i5+1) (({({({({({({l with n:=e}:ap)with a_:=[]}:ap)with b:=[]}:ap)with a_:=a_}:ap)with b:=b3}:ap)with a_:=e2}:ap).a_) (({({({({({({l with n:=e}:ap)with a_:=[]}:ap)with b:=[]}:ap)with a_:=a_}:ap)with b:=b3}:ap)with a_:=e2}:ap).b))else((bp l i ask e r tl) (i5+1) (({({({({({({l with n:=e}:ap)with a_:=[]}:ap)with b:=[]}:ap)with a_:=a_}:ap)with b:=b3}:ap)with b:=e2}:ap).a_) (({({({({({({l with n:=e}:ap)with a_:=[]}:ap)with b:=[]}:ap)with a_:=a_}:ap)with b:=b3}:ap)with b:=e2}:ap).b)))
def kU(l:ap)(i:Int)(ask:(ap->Unit->Option (Bool×ap))):Option (Bool×ap):=(dm l.A' i).bind fun e=>(yY e.Op).bind fun r=>(if(!((decide (r<0))||(decide ((l.D'.length:Int)<r))))then((uj e).bind fun r1=>some (!r1))else some true).bind fun t=>if t then(some (false,l))else((fz l.D' (i64.wrap ((l.D'.length:Int)-r)) (l.D'.length:Int)).bind fun y=>if(!decide ((AN ([(-1),(-1)]) y)=([e.A,e.B])))then(some (false,l))else((fz l.D' (i64.wrap ((l.D'.length:Int)-r)) (l.D'.length:Int)).bind fun y1=>bp l i ask e r y1 0 (({({({l with n:=e}:ap)with a_:=[]}:ap)with b:=[]}:ap).a_) (({({({l with n:=e}:ap)with a_:=[]}:ap)with b:=[]}:ap).b)))
def oI:List (List Int)->(List (List Int))->Option ((List (List Int))×Int×Int)
 |[],out=>some (out,0,0)
 |e::tl,out=>(bU e).bind fun r1=>(nH out ([r1])).bind fun g_=>(oI tl) g_
def uJ(ob:ap)(wrong1:Int):Option ((List (List Int))×Int×Int):=if(decide (0<=wrong1))then(some ([],wrong1,291))else(oI ob.j' ([]:List (List Int)))
def uK(A':(List ac))(wrong:Int)(ob:ap):Option ((List (List Int))×Int×Int):=if((decide (wrong<0))&&((ob.D'.length:Int) !=1))then(uJ ob (i64.wrap ((A'.length:Int)-1)))else(uJ ob wrong)
def jR(A':(List ac))(r:(List (Int×(ap->Unit->Option (Bool×ap))))):List ac->Nat->Int->ap->Option ((List (List Int))×Int×Int)
 |[],i1,wrong2,v_=>uK A' wrong2 v_
 |e1::tl1,i1,wrong2,v_=>(kU v_ (i1:Int) ((jC r e1.Op).getD (fun _ _=>none))).bind fun r2=>if(!r2.1)then(uK A' (i1:Int) r2.2)else((jR A' r tl1) (i1+1) wrong2 r2.2)
def sk(A':(List ac)):Option ((List (List Int))×Int×Int):=if((decide ((A'.length:Int)<1))||(decide (60<(A'.length:Int))))then(some ([],0,291))else((sM).bind fun r=>jR A' r A' 0 (-1) (⟨A',[],[],⟨0,0,0,0,[],false,⟨[]⟩,[],[],[],[],0⟩,[],[],[]⟩:ap))
def gu(root:(List Int))(c:Int):Option Bool:=(if(!((decide (c<0))||(decide ((root.length:Int)<=c))))then((dm root c).bind fun e=>some (e==4))else some true).bind fun t=>some t
def cC(f:(ac->Option Bool)):List ac->Nat->Option Int
 |[],i=>some (-1)
 |e::tl,i=>(f e).bind fun r=>if r then(some (i:Int))else((cC f tl) (i+1))
def dS(s:(List ac))(f:(ac->Option Bool)):Option Int:=cC f s 0
def fE(s:(List ac))(f:(ac->Option Bool)):Option Bool:=(dS s f).bind fun r=>some (decide (0<=r))
def dk(s2:(List cc))(eq:(Int->cc->Option Bool)):List Int->Nat->Option Bool
 |[],i=>some true
 |e::tl,i=>(dm s2 (i:Int)).bind fun e1=>(eq e e1).bind fun r=>if(!r)then(some false)else((dk s2 eq tl) (i+1))
def ef(s1:(List Int))(s2:(List cc))(eq:(Int->cc->Option Bool)):Option Bool:=if((s1.length:Int) !=(s2.length:Int))then(some false)else(dk s2 eq s1 0)
def nL(k:Int)(c:cc):Option Bool:=some (k==c.Kind)
def mO(f:bt)(p:(Option df))(n:ac):Option Bool:=if(n.Op !=1)then(some false)else((if(!(f.At !=1))then((p).bind fun p1=>some (decide ((p1.c.i_.length:Int)<=n.M')))else some true).bind fun t=>if t then(some true)else((p).bind fun p2=>(dm p2.c.i_ n.M').bind fun e=>(ef n.U' e.b_ nL).bind fun r=>some (!r)))
def qA(p:(Option df))(f:bt)(root:(List Int)):Option Bool:=if((((((f.At !=1)&&(f.At !=2))||(decide (f.Way<1)))||(decide (4<f.Way)))||((f.Way==1) !=(decide (0<(f.l_.length:Int)))))||(decide (16<(f.l_.length:Int))))then(some false)else((dr f.l_ (gu root)).bind fun r=>if r then(some false)else((fE f.u' (mO f p)).bind fun r1=>some (!r1)))
def mq(p:(Option df))(w_:Int):Option (List Int):=(p).bind fun p1=>(dm p1.j' w_).bind fun e=>(dm e (i64.wrap ((e.length:Int)-1))).bind fun e1=>some e1
def lj(p:(Option df))(x:Int×Int)(one:Bool)(many:Int):Option (Bool×Int):=(p).bind fun p3=>(dm p3.c_.J' x.1).bind fun e2=>some ((e2.At==2),(i64.wrap (many+1)))
def jF(p:(Option df))(r_:Int)(e:bt):List ac->Option Bool
  |[]=>(p).bind fun p2=>(u4 p2.c_ r_).bind fun it=>(it (Bool×Int) (DM (fun x s=>lj p x s.1 s.2)) (false,0)).bind fun(x1,x2)=>(p).bind fun p4=>if(r_==(i64.wrap ((p4.c_.J'.length:Int)-1)))then((if(((e.Way==4)&&(e.At==2))&&(x2==0))then((mq p r_).bind fun r=>(ft r 4).bind fun r1=>some (!r1))else some false).bind fun t=>some t)else(some (((e.Way !=4)&&(x2==1))&&((e.Way==3)==x1)))
  |e1::tl=>(if(e1.Op==9)then((if(!(decide (r_<=e1.M')))then((mq p e1.M').bind fun r2=>(fO e1.U' r2).bind fun r3=>some (!r3))else some true).bind fun t2=>some t2)else some false).bind fun t1=>if t1 then(some false)else((jF p r_ e tl))
def pO(p:(Option df))(r_:Int):Option Bool:=(p).bind fun p1=>(dm p1.c_.J' r_).bind fun e=>jF p r_ e e.u'
def rz(x:df):List bt->Nat->Option ((Option df)×Int×Int×Int)
 |[],i1=>some ((some x),0,0,0)
 |e1::tl1,i1=>(pO (some x) (i1:Int)).bind fun r1=>if(!r1)then(some ((none:(Option df)),(i1:Int),0,290))else((rz x tl1) (i1+1))
def rA(q:dp):List bt->Nat->df->Option ((Option df)×Int×Int×Int)
  |[],i,x=>rz x q.J' 0
  |e::tl,i,x=>(sk e.u').bind fun r2=>if(r2.2.2 !=0)then(some ((none:(Option df)),(i:Int),r2.2.1,r2.2.2))else((dm r2.1 (i64.wrap ((r2.1.length:Int)-1))).bind fun e2=>(qA (some x) e e2).bind fun r3=>if(!r3)then(some ((none:(Option df)),(i:Int),0,291))else((nH x.j' ([r2.1])).bind fun l1=>(rA q tl) (i+1) ({x with j':=l1}:df)))
def ww(q:dp)(c:bo):Option ((Option df)×Int×Int×Int):=(rN c).bind fun r=>if(r !=0)then(some ((none:(Option df)),0,0,r))else(if((decide ((q.J'.length:Int)<1))||(decide (30<(q.J'.length:Int))))then(some ((none:(Option df)),0,0,290))else(rA q q.J' 0 (⟨q,c,([]:List (List (List Int)))⟩:df)))
def um(p:dp)(c:bo):Option (Int×Int×Int):=(ww p c).bind fun r=>some (r.2.1,r.2.2.1,r.2.2.2)
def qH(l:(Option er)):Option bT:=(l).bind fun p=>(p.W_).bind fun p1=>(l).bind fun p2=>(dm p1.c.i_ p2.n.M').bind fun e=>if(decide (0<(e.I'.length:Int)))then((bU e.I').bind fun r=>some (⟨2,r⟩:bT))else(some (⟨1,[]⟩:bT))
def p6(l:(Option er)):Option bT:=(l).bind fun p=>(p.W_).bind fun p1=>(l).bind fun p2=>(dm p1.c_.J' p2.n.M').bind fun e=>if(e.Way==1)then((bU e.l_).bind fun r=>some (⟨2,r⟩:bT))else(some (⟨3,[]⟩:bT))
def p5(l:(Option er)):Option bT:=(l).bind fun p=>(if(p.a_.Kind==2)then((l).bind fun p1=>some (p1.b.Kind==2))else some false).bind fun t=>(if t then((l).bind fun p2=>(l).bind fun p3=>(fO p2.a_.l_ p3.b.l_).bind fun r=>some r)else some false).bind fun t1=>if t1 then((l).bind fun p4=>some p4.a_)else(some (⟨1,[]⟩:bT))
def pi(r_:(Int->Option Int)):List Int->(List Int)->bT->Option bT
  |[],d_,x=>some (⟨2,d_⟩:bT)
  |e::tl,d_,x=>(r_ e).bind fun r=>if(decide (r<0))then(some (⟨1,[]⟩:bT))else((nH d_ ([r])).bind fun cols1=>(pi r_ tl) cols1 x)
def u5(p:bT)(r_:(Int->Option Int)):Option bT:=if(p.Kind !=2)then(some p)else(pi r_ p.l_ ([]:List Int) (⟨0,[]⟩:bT))
def dn(f:(bD->Option Bool)):List bD->Nat->Option Int
 |[],i=>some (-1)
 |e::tl,i=>(f e).bind fun r=>if r then(some (i:Int))else((dn f tl) (i+1))
def dD(s:(List bD))(f:(bD->Option Bool)):Option Int:=dn f s 0
def di(c:Int)(e:bD):Option Bool:=(if((e.u'.length:Int)==1)then((dm e.u' 0).bind fun e1=>some (e1.Tag==2))else some false).bind fun t=>(if t then((dm e.u' 0).bind fun e2=>some (e2.y_==c))else some false).bind fun t1=>some t1
def rp(l:(Option er))(c:Int):Option Int:=(l).bind fun p=>(dD p.n.N' (di c)).bind fun r=>some r
def oj(l:(Option er)):Option bT:=(l).bind fun p=>(u5 p.a_ (rp l)).bind fun r=>some r
def tt(l:(Option er))(c:Int):Option Int:=(l).bind fun p=>(fN p.n.I' c).bind fun r=>some r
def jT(l:(Option er)):Option bT:=(l).bind fun p=>(u5 p.a_ (tt l)).bind fun r=>some r
def jS(l:(Option er)):Option bT:=(l).bind fun p=>some p.a_
def ol:Option (List (Int×((Option er)->Option bT))):=some (dC (dC (dC (dC (dC (dC (dC (dC (dC (dC (dC ([]:List (Int×((Option er)->Option bT))) 1 qH) 9 p6) 7 p5) 5 oj) 4 jT) 10 jT) 11 jT) 3 jS) 6 jS) 8 jS) 2 jS)
def ll(nx:(List bT)->Option (List bT))(out:List bT)(x2:bT):Option (List bT):=(nH out ([x2])).bind fun g_=>nx g_
def iw(e:bt)(r:(List (Int×((Option er)->Option bT))))(nx:(List bT)->Option (List bT))(e1:ac)(out:List bT)(x1:er):Option (List bT):=if(e.At==1)then((((jC r e1.Op)).bind fun y=>y (some x1)).bind fun r1=>ll nx out r1)else(ll nx out (⟨4,[]⟩:bT))
def gq(e:bt)(r:(List (Int×((Option er)->Option bT))))(nx:(List bT)->Option (List bT))(e1:ac)(out:List bT)(x:er):Option (List bT):=if(decide (0<=e1.B))then((dm out e1.B).bind fun e2=>iw e r nx e1 out (er.mk x.W_ x.n x.a_ e2))else(iw e r nx e1 out x)
def bu(p:(Option df))(e:bt)(r:(List (Int×((Option er)->Option bT)))):List ac->(List bT)->Option (List bT)
  |[],out=>some out
  |e1::tl,out=>if(decide (0<=e1.A))then((dm out e1.A).bind fun e3=>gq e r (bu p e r tl) e1 out (er.mk p e1 e3 ⟨0,[]⟩))else(gq e r (bu p e r tl) e1 out (⟨p,e1,⟨0,[]⟩,⟨0,[]⟩⟩:er))
def lA(p:(Option df))(w_:Int):Option (List bT):=(p).bind fun p1=>(dm p1.c_.J' w_).bind fun e=>(ol).bind fun r=>bu p e r e.u' ([]:List bT)
def jt(place:Int)(n:ac):Option Bool:=some ((n.A==place)||(n.B==place))
def kD(p:(Option df))(w_:Int):Option ac:=(p).bind fun p1=>(u6 p1.c_ w_).bind fun r=>if(!r.2.2)then(some (⟨0,0,0,0,[],false,⟨[]⟩,[],[],[],[],0⟩:ac))else((p).bind fun p2=>(dm p2.c_.J' r.1).bind fun e=>(dS e.u' (jt r.2.1)).bind fun r1=>if(decide (r1<0))then(some (⟨0,0,0,0,[],false,⟨[]⟩,[],[],[],[],0⟩:ac))else((p).bind fun p3=>(dm p3.c_.J' r.1).bind fun e1=>(dm e1.u' r1).bind fun e2=>some e2))
def da(s2:(List fh))(eq:(fh->fh->Option Bool)):List fh->Nat->Option Bool
 |[],i=>some true
 |e::tl,i=>(dm s2 (i:Int)).bind fun e1=>(eq e e1).bind fun r=>if(!r)then(some false)else((da s2 eq tl) (i+1))
def d5(s1:(List fh))(s2:(List fh))(eq:(fh->fh->Option Bool)):Option Bool:=if((s1.length:Int) !=(s2.length:Int))then(some false)else(da s2 eq s1 0)
def lZ(p:fh)(y:fh):Option Bool:=some (p.Tag==y.Tag)
def qI(b:bT)(held:List ((Int×Int)×Bool)):List Int->Nat->Option Bool
 |[],i1=>some true
 |e1::tl1,i1=>(dm b.l_ (i1:Int)).bind fun e2=>if(!((jC held (k2 ([e1,e2]))).getD false))then(some false)else((qI b held tl1) (i1+1))
def ph(a1:bT)(b:bT)(left:Int):List bD->(List ((Int×Int)×Bool))->Option Bool
 |[],held=>qI b held a1.l_ 0
 |e::tl,held=>(wc e left).bind fun r2=>if r2.2.2 then((ph a1 b left tl) (dC held (k2 ([r2.1,r2.2.1])) true))else((ph a1 b left tl) held)
def qJ(n:ac)(a1:bT)(b:bT)(left:Int):Option Bool:=if(b.Kind==3)then(some (a1.Kind !=3))else((if(!(((a1.Kind !=2)||(b.Kind !=2))||((a1.l_.length:Int) !=(b.l_.length:Int))))then((uw n.f_).bind fun r=>some (!r))else some true).bind fun t=>if t then(some false)else((wd n.f_).bind fun r1=>ph a1 b left r1 ([]:List ((Int×Int)×Bool))))
def qK(keys:(List Int))(c:Int):Option Bool:=(ft keys c).bind fun r=>some (!r)
def tu(a1:bT)(keys:(List Int)):Option Bool:=(if(a1.Kind==2)then((dr a1.l_ (qK keys)).bind fun r=>some (!r))else some false).bind fun t=>some t
def eP(s2:(List px)):List px->Nat->Option Bool
 |[],i=>some true
 |e::tl,i=>(dm s2 (i:Int)).bind fun e1=>if(!decide (e=e1))then(some false)else((eP s2 tl) (i+1))
def hZ(s1:(List px))(s2:(List px)):Option Bool:=if((s1.length:Int) !=(s2.length:Int))then(some false)else(eP s2 s1 0)
def lh(p:(Option df))(w_:Int)(e:bt)(e1:ac)(e2:bT)(x:Bool):Option Bool:=if x then((tu e2 e1.I').bind fun r1=>some r1)else(if(e1.Op==6)then(some (e2.Kind==2))else(if(e1.Op==10)then(some (e2.Kind !=3))else(if(e1.Op==8)then((kD p w_).bind fun r2=>(if((((e2.Kind !=3)&&(e.Way==3))&&(r2.Op==8))&&(r2.Z'==e1.Z'))then((hZ r2.Y' e1.Y').bind fun r3=>some r3)else some false).bind fun t1=>some t1)else(some true))))
def li(p:(Option df))(w_:Int)(l:(List bT))(e:bt)(e1:ac):Option Bool:=if((e.At==2)||(decide (e1.A<0)))then(some true)else((dm l e1.A).bind fun e2=>if(e1.Op==2)then((dm l e1.B).bind fun e3=>(p).bind fun p2=>(dm p2.j' w_).bind fun e4=>(dm e4 e1.A).bind fun e5=>(qJ e1 e2 e3 (e5.length:Int)).bind fun r=>some r)else(if(e1.Op==7)then((if(e2.Kind !=3)then((dm l e1.B).bind fun e6=>some (e6.Kind !=3))else some false).bind fun t=>some t)else(if(e1.Op==4)then(lh p w_ e e1 e2 (e1.Op==4))else(lh p w_ e e1 e2 (e1.Op==11)))))
def pN(p:(Option df))(w_:Int)(r_:Int)(l:(List bT)):Option Bool:=(p).bind fun p1=>(dm p1.c_.J' w_).bind fun e=>(dm e.u' r_).bind fun e1=>if(e1.Op==10)then((kD p w_).bind fun r4=>(d5 e1.L' r4.L' lZ).bind fun r5=>if(((r4.Op !=11)||(!r5))||((e1.I'.length:Int) !=(r4.I'.length:Int)))then(some false)else(li p w_ l e e1))else(li p w_ l e e1)
def uI(w_:Int)(place:Int):Option (Int×Int×Int):=if(decide (0<=w_))then(some (w_,place,280))else(some (0,0,0))
def qh(r:(Option df)×Int×Int×Int)(nx:Nat->Int->Int->Option (Int×Int×Int))(i:Nat)(r1:(List bT)):List ac->Nat->Int->Int->Option (Int×Int×Int)
 |[],i1,frag2,place2=>(dm r1 (i64.wrap ((r1.length:Int)-1))).bind fun e2=>if(e2.Kind==3)then(uI (i:Int) (i64.wrap ((r1.length:Int)-1)))else(nx (i+1) frag2 place2)
 |e1::tl1,i1,frag2,place2=>(pN r.1 (i:Int) (i1:Int) r1).bind fun r2=>if(!r2)then(uI (i:Int) (i1:Int))else((qh r nx i r1 tl1) (i1+1) frag2 place2)
def qi(r:(Option df)×Int×Int×Int):List bt->Nat->Int->Int->Option (Int×Int×Int)
 |[],i,frag1,place1=>uI frag1 place1
 |e::tl,i,frag1,place1=>(lA r.1 (i:Int)).bind fun r1=>qh r (qi r tl) i r1 e.u' 0 frag1 place1
def ul(q:dp)(c:bo):Option (Int×Int×Int):=(ww q c).bind fun r=>if(r.2.2.2 !=0)then(some (r.2.1,r.2.2.1,r.2.2.2))else(qi r q.J' 0 (-1) 0)
def q6(p:dp):Option ((List Int)×Int):=if((p.J'.length:Int)==0)then(some ([],290))else((dm p.J' (i64.wrap ((p.J'.length:Int)-1))).bind fun e=>(sk e.u').bind fun r=>if(r.2.2 !=0)then(some ([],r.2.2))else((dm r.1 (i64.wrap ((r.1.length:Int)-1))).bind fun e1=>some (e1,0)))
def nE(r7:(List Int)×Int):List Int->Nat->Option Bool
 |[],i2=>some true
 |e3::tl3,i2=>(dm r7.1 (i2:Int)).bind fun e4=>if(e3 !=e4)then(some false)else((nE r7 tl3) (i2+1))
def eI(l:cQ)(r3:dp×Int)(scans1:List (Int×Int)):List Int->Option Bool
 |[]=>(qR l).bind fun r6=>(q6 r3.1).bind fun r7=>if(((r6.2 !=0)||(r7.2 !=0))||((r6.1.length:Int) !=(r7.1.length:Int)))then(some false)else(nE r7 r6.1 0)
 |e2::tl2=>if(((jC scans1 e2).getD 0) !=0)then(some false)else((eI l r3 scans1 tl2))
def lF(nx1:(List (Int×Int))->Option Bool):List ac->(List (Int×Int))->Option Bool
 |[],scans2=>nx1 scans2
 |e5::tl4,scans2=>if(e5.Op==1)then((lF nx1 tl4) (dC scans2 e5.M' (i64.wrap (((jC scans2 e5.M').getD 0)-1))))else((lF nx1 tl4) scans2)
def jb(l:cQ)(r3:dp×Int):List bt->(List (Int×Int))->Option Bool
 |[],scans1=>eI l r3 scans1 (scans1.map Prod.fst)
 |e1::tl1,scans1=>lF (jb l r3 tl1) e1.u' scans1
def lG(l:cQ)(r3:dp×Int):List ac->(List (Int×Int))->Option Bool
 |[],scans=>jb l r3 r3.1.J' scans
 |e::tl,scans=>if(e.Op==1)then((lG l r3 tl) (dC scans e.M' (i64.wrap (((jC scans e.M').getD 0)+1))))else((lG l r3 tl) scans)
def vt(l:cQ)(c:bo):Option Bool:=(Ax).bind fun r=>if(!r)then(some false)else((zd l.u').bind fun r1=>(if(!r1)then((ra c).bind fun r2=>some r2)else some true).bind fun t=>if t then(some true)else((v7 l c).bind fun r3=>if(r3.2 !=0)then(some ((r3.1.J'.length:Int)==0))else((um r3.1 c).bind fun r4=>if(r4.2.2 !=0)then(some false)else((ul r3.1 c).bind fun r5=>if(r5.2.2 !=0)then(some false)else(lG l r3 l.u' ([]:List (Int×Int)))))))