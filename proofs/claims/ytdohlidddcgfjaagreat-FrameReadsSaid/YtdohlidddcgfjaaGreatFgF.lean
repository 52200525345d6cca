import Derived.Test.YtdohlidddcgfjaaGreatFgD
import Derived.Test.YtdohlidddcgfjaaGreatFgV4
set_option linter.all false
namespace Go.Proofs.YtdohlidddcgfjaaGreat
open Go IntKind
def zg(Z_:Int->(List Int)->Option (List Int))(n2:Int):Nat->Int->(List Int)->Option (List Int)
  |0,_,_=>none
  |n4+1,x,V'=>if(decide (x<n2))then((gw V' n2).bind fun e4=>(gw V' x).bind fun e5=>(gw V' (i64.wrap (n2+x))).bind fun e6=>(some (V'.set (i64.wrap (n2+x)).toNat (sO .xor .u32 e4 e5))).bind fun ar3=>(zg Z_ n2 n4) (i64.wrap (x+1)) ar3)else(Z_ (i64.wrap (n2*2)) V')
def wd:Nat->Int->(List Int)->Option (List Int)
 |0,_,_=>none
 |n3+1,n2,n'=>if(decide (n2<256))then(zg (wd n3) n2 de 0 n')else(some n')
def we:Nat->Int->(List Int)->Option (List Int)
  |0,_,_=>none
  |n1+1,n,out=>if(decide (0<n))then((gw out (i64.wrap (2*n))).bind fun e1=>(gw out n).bind fun e2=>(some (out.set n.toNat ((e1).fdiv (2^(min (Int.toNat 1) u32.bits))))).bind fun ar1=>if((sO .and .u32 e1 1)==1)then((gw ar1 n).bind fun e3=>(some (ar1.set n.toNat (sO .xor .u32 e3 2197175160))).bind fun ar2=>(we n1) (i64.wrap ((n).tdiv 2)) ar2)else((we n1) (i64.wrap ((n).tdiv 2)) ar1))else(wd de 2 out)
def ES:Option (List Int):=(gw (List.replicate 256 (0:Int)) 128).bind fun e=>(some ((List.replicate 256 (0:Int)).set (128:Int).toNat 2197175160)).bind fun ar=>we de 64 ar
def xx(register:Int)(Ad:(List Int))(c:Int):Option Int:=(gw Ad (sO .xor .u8 (u8.wrap register) c)).bind fun e=>some (sO .xor .u32 ((register).fdiv (2^(min (Int.toNat 8) u32.bits))) e)
def rN(r:(List Int)):List Int->Int->Option Int
 |[],register=>some (sO .xor .u32 (if u32.signed then -1 else u32.max) register)
 |e::tl,register=>(xx register r e).bind fun r1=>(rN r tl) r1
def wy(b:(List Int)):Option Int:=(ES).bind fun r=>rN r b 4294967295
def ph(b:(List Int)):Option (List Int):=(hU ([]:List Int) b).bind fun x=>some x
def pW:Nat->(List Int)->Int->Option (List Int)
 |0,out,n=>some out
 |k1+1,out,n=>(hU out ([(u8.wrap n)])).bind fun n'=>(pW k1) n' ((n).fdiv (2^(min (Int.toNat 8) u32.bits)))
def pn(b:(List Int)):Option (List Int):=(wy b).bind fun r=>(ph b).bind fun r1=>pW 4 r1 r
def qp(n:Int):Option Bool:=some ((decide (0<=n))&&(decide (n<=8)))
def cP(s2:(List (List aD)))(eq:((List aD)->(List aD)->Option Bool)):List (List aD)->Nat->Option Bool
 |[],i=>some true
 |e::tl,i=>(gw s2 (i:Int)).bind fun e1=>(eq e e1).bind fun r=>if(!r)then(some false)else((cP s2 eq tl) (i+1))
def dg(s1:(List (List aD)))(s2:(List (List aD)))(eq:((List aD)->(List aD)->Option Bool)):Option Bool:=if((s1.length:Int) !=(s2.length:Int))then(some false)else(cP s2 eq s1 0)
def fi(s2:(List aD)):List aD->Nat->Option Bool
 |[],i=>some true
 |e::tl,i=>(gw s2 (i:Int)).bind fun e1=>if(!decide (e=e1))then(some false)else((fi s2 tl) (i+1))
def fS(s1:(List aD))(s2:(List aD)):Option Bool:=if((s1.length:Int) !=(s2.length:Int))then(some false)else(fi s2 s1 0)
def tp(p:(List aD))(y:(List aD)):Option Bool:=(fS p y).bind fun r=>some r
def r0(a1:di)(b:di):Option Bool:=(dg a1.Q'.Rows b.Q'.Rows tp).bind fun r=>some (((((((a1.Kind==b.Kind)&&(a1.g_==b.g_))&&(a1.Seq==b.Seq))&&(a1.J'==b.J'))&&(a1.Q'.End==b.Q'.End))&&(a1.Q'.s_==b.Q'.s_))&&r)
def lF(s2:(List Int)):List Int->Nat->Option Bool
 |[],i=>some true
 |e::tl,i=>(gw s2 (i:Int)).bind fun e1=>if(e !=e1)then(some false)else((lF s2 tl) (i+1))
def jz(s1:(List Int))(s2:(List Int)):Option Bool:=if((s1.length:Int) !=(s2.length:Int))then(some false)else(lF s2 s1 0)
def iL(s2:(List jJ)):List jJ->Nat->Option Bool
 |[],i=>some true
 |e::tl,i=>(gw s2 (i:Int)).bind fun e1=>if(!decide (e=e1))then(some false)else((iL s2 tl) (i+1))
def jq(s1:(List jJ))(s2:(List jJ)):Option Bool:=if((s1.length:Int) !=(s2.length:Int))then(some false)else(iL s2 s1 0)
def gI(s2:(List bw)):List bw->Nat->Option Bool
 |[],i=>some true
 |e::tl,i=>(gw s2 (i:Int)).bind fun e1=>if(!decide (e=e1))then(some false)else((gI s2 tl) (i+1))
def iu(s1:(List bw))(s2:(List bw)):Option Bool:=if((s1.length:Int) !=(s2.length:Int))then(some false)else(gI s2 s1 0)
def wC(a1:bQ)(b:bQ):Option Bool:=(iu a1.i' b.i').bind fun r=>some r
def sX(p:f9)(q:f9):Option Bool:=(if(p.Tag==q.Tag)then((wC p.Arg q.Arg).bind fun r=>some r)else some false).bind fun t=>some t
def eu(s2:(List f9))(eq:(f9->f9->Option Bool)):List f9->Nat->Option Bool
 |[],i=>some true
 |e::tl,i=>(gw s2 (i:Int)).bind fun e1=>(eq e e1).bind fun r=>if(!r)then(some false)else((eu s2 eq tl) (i+1))
def eK(s1:(List f9))(s2:(List f9))(eq:(f9->f9->Option Bool)):Option Bool:=if((s1.length:Int) !=(s2.length:Int))then(some false)else(eu s2 eq s1 0)
def dZ(s2:(List bQ))(eq:(bQ->bQ->Option Bool)):List bQ->Nat->Option Bool
 |[],i=>some true
 |e::tl,i=>(gw s2 (i:Int)).bind fun e1=>(eq e e1).bind fun r=>if(!r)then(some false)else((dZ s2 eq tl) (i+1))
def ef(s1:(List bQ))(s2:(List bQ))(eq:(bQ->bQ->Option Bool)):Option Bool:=if((s1.length:Int) !=(s2.length:Int))then(some false)else(dZ s2 eq s1 0)
def rm(p:al)(y:al):Option Bool:=(if((((((p.Op==y.Op)&&(p.A==y.A))&&(p.B==y.B))&&(p.Table==y.Table))&&(p.Left==y.Left))&&(p.J'==y.J'))then((jz p.A' y.A').bind fun r=>some r)else some false).bind fun t=>(if t then((jz p.v' y.v').bind fun r1=>some r1)else some false).bind fun t1=>(if t1 then((jq p.B' y.B').bind fun r2=>some r2)else some false).bind fun t2=>(if t2 then((wC p.c_ y.c_).bind fun r3=>some r3)else some false).bind fun t3=>(if t3 then((eK p.u' y.u' sX).bind fun r4=>some r4)else some false).bind fun t4=>(if t4 then((ef p.D' y.D' wC).bind fun r5=>some r5)else some false).bind fun t5=>some t5
def dY(s2:(List dl))(eq:(dl->dl->Option Bool)):List dl->Nat->Option Bool
 |[],i=>some true
 |e::tl,i=>(gw s2 (i:Int)).bind fun e1=>(eq e e1).bind fun r=>if(!r)then(some false)else((dY s2 eq tl) (i+1))
def ee(s1:(List dl))(s2:(List dl))(eq:(dl->dl->Option Bool)):Option Bool:=if((s1.length:Int) !=(s2.length:Int))then(some false)else(dY s2 eq s1 0)
def dF(s2:(List al))(eq:(al->al->Option Bool)):List al->Nat->Option Bool
 |[],i=>some true
 |e::tl,i=>(gw s2 (i:Int)).bind fun e1=>(eq e e1).bind fun r=>if(!r)then(some false)else((dF s2 eq tl) (i+1))
def dQ(s1:(List al))(s2:(List al))(eq:(al->al->Option Bool)):Option Bool:=if((s1.length:Int) !=(s2.length:Int))then(some false)else(dF s2 eq s1 0)
def vC(node:(al->al->Option Bool))(p:dl)(y:dl):Option Bool:=(if((p.At==y.At)&&(p.Way==y.Way))then((jz p.p_ y.p_).bind fun r=>some r)else some false).bind fun t=>(if t then((dQ p.i' y.i' node).bind fun r1=>some r1)else some false).bind fun t1=>some t1
def BJ(a1:iG)(b:iG):Option Bool:=(ee a1.L' b.L' (vC rm)).bind fun r=>some r
def tq(a1:cH)(b:cH):Option Bool:=(if((decide (([a1.Kind,a1.f_,a1.To,a1.P',a1.e_,a1.U'])=([b.Kind,b.f_,b.To,b.P',b.e_,b.U'])))&&(a1.G_==b.G_))then((r0 a1.C' b.C').bind fun r=>some r)else some false).bind fun t=>(if t then((BJ a1.b_ b.b_).bind fun r1=>some r1)else some false).bind fun t1=>some t1
def ut(m:cH)(x:Bool):Option Bool:=if x then((tq (cH.mk 0 0 0 0 0 m.U' m.b_ ⟨0,0,0,0,⟨[],false,0⟩⟩ m.G_) (⟨0,0,0,0,0,0,⟨[]⟩,⟨0,0,0,0,⟨[],false,0⟩⟩,0⟩:cH)).bind fun r1=>some r1)else(if(m.Kind==5)then((tq (cH.mk 0 0 0 0 m.e_ m.U' m.b_ m.C' 0) (⟨0,0,0,0,0,0,⟨[]⟩,⟨0,0,0,0,⟨[],false,0⟩⟩,0⟩:cH)).bind fun r2=>some r2)else((tq (cH.mk 0 0 0 0 m.e_ m.U' m.b_ m.C' m.G_) (⟨0,0,0,0,0,0,⟨[]⟩,⟨0,0,0,0,⟨[],false,0⟩⟩,0⟩:cH)).bind fun r3=>some r3))
def xT(m:cH):Option Bool:=if(m.Kind==1)then((tq (cH.mk 0 0 0 0 m.e_ 0 ⟨[]⟩ m.C' m.G_) (⟨0,0,0,0,0,0,⟨[]⟩,⟨0,0,0,0,⟨[],false,0⟩⟩,0⟩:cH)).bind fun r=>some r)else(if(m.Kind==3)then(ut m (m.Kind==3))else(ut m (m.Kind==4)))
def uv(c:Int):Option Bool:=some ((decide (c<0))||(decide (16<=c)))
def ir(f:(Int->Option Bool)):List Int->Nat->Option Int
 |[],i=>some (-1)
 |e::tl,i=>(f e).bind fun r=>if r then(some (i:Int))else((ir f tl) (i+1))
def n7(bx:(List Int))(f:(Int->Option Bool)):Option Int:=ir f bx 0
def gA(bx:(List Int))(f:(Int->Option Bool)):Option Bool:=(n7 bx f).bind fun r=>some (decide (0<=r))
def rW(k:Int):Option Bool:=some ((decide (k<1))||(decide (3<k)))
def lA(l:aE):Option (Bool×aE):=(gA ((({l with j':=l.n.A'}:aE).n).A') rW).bind fun r=>some ((((((!r)&&(decide (0<=((({l with j':=l.n.A'}:aE).n).Table))))&&(decide (((({l with j':=l.n.A'}:aE).n).Table)<4)))&&(decide (0<(((({l with j':=l.n.A'}:aE).n).A').length:Int))))&&(decide ((((({l with j':=l.n.A'}:aE).n).A').length:Int)<=4))),({l with j':=l.n.A'}:aE))
def qK(k:Int):Option Bool:=some ((decide (k<0))||(decide (4<k)))
def jr(l:aE):Option (Bool×aE):=(gA ((({l with j':=l.n.A'}:aE).n).A') qK).bind fun r=>some ((((((!r)&&(decide (0<=((({l with j':=l.n.A'}:aE).n).Table))))&&(decide (((({l with j':=l.n.A'}:aE).n).Table)<30)))&&(decide (0<(((({l with j':=l.n.A'}:aE).n).A').length:Int))))&&(decide ((((({l with j':=l.n.A'}:aE).n).A').length:Int)<=16))),({l with j':=l.n.A'}:aE))
def po(bx:List Int):Option (List Int):=some bx
def pp(n:Int):Option (List Int):=if(decide (0<(i64.wrap (n-(i64.wrap (0-0))))))then((gt0 (i64.wrap (n-(i64.wrap (0-0))))).bind fun _=>(zd (i64.wrap (n-(i64.wrap (0-0)))) 0).bind fun mk=>(dr mk 0 0).bind fun y=>po y)else(po ([]:List Int))
def ox(n:Int):Option (List Int):=if(decide (n<0))then(none)else(pp n)
def kY:List (List Int)->(List Int)->Option (List Int)
 |[],t_=>some t_
 |e1::tl1,t_=>(hU t_ e1).bind fun newslice1=>(kY tl1) newslice1
def kZ(slices:(List (List Int))):List (List Int)->Int->Option (List Int)
 |[],size=>(ox size).bind fun r=>kY slices r
 |e::tl,size=>if(decide ((i64.wrap (size+(e.length:Int)))<0))then(none)else((kZ slices tl) (i64.wrap (size+(e.length:Int))))
def kH(slices:(List (List Int))):Option (List Int):=kZ slices slices 0
def u3(tag:Int):Option Int:=if((tag==1)||(tag==2))then(some 0)else(if((decide (4<=tag))&&(decide (tag<=7)))then(some 1)else(if((decide (12<=tag))&&(decide (tag<=23)))then(some 2)else(some (-1))))
def mW(v1:aD):Option aD:=some v1
def ug(v2:aD):Option aD:=mW (aD.mk 0 v2.N v2.U v2.S)
def uf(v:aD):Option aD:=ug (aD.mk v.Kind 0 v.U v.S)
def ue(v3:aD):Option aD:=mW v3
def AE(v:aD):Option aD:=if(v.Kind==1)then(if((v.N !=0)&&(v.N !=1))then(mW v)else(uf v))else(if(v.Kind==2)then(uf v)else(if(v.Kind==0)then(ug v)else(if(v.Kind==3)then(if(decide ((v.S.length:Int)<=40))then(ue (aD.mk 0 v.N v.U ([])))else(ue v))else(if(v.Kind==4)then(mW (aD.mk 0 0 0 v.S))else(mW v)))))
def kj(v:aD):Option Int:=(AE v).bind fun r=>if(!decide (r=(⟨0,0,0,[]⟩:aD)))then(some 120)else(some 0)
def xu(v:aD):Option Bool:=(kj v).bind fun r=>some ((r==0)&&(v.Kind !=4))
def yb(n:bw):Option Bool:=if(n.Tag==1)then((xu n.Value).bind fun r=>some (r&&(n.o_==0)))else(if(n.Tag==2)then(some (((decide (n.Value=(⟨0,0,0,[]⟩:aD)))&&(decide (0<=n.o_)))&&(decide (n.o_<16))))else(some ((decide (n.Value=(⟨0,0,0,[]⟩:aD)))&&(n.o_==0))))
def oZ(nx:Nat->(List Int)->(List Int)->Option ((List Int)×Bool))(i:Nat)(e1:bw)(all:List Int)(open1:List Int)(r:Int):List Int->Nat->Int->(List Int)->Option ((List Int)×Bool)
  |[],i1,first,M'=>if(!decide (M'=([e1.L,e1.R])))then(some ([],false))else((hU all ([first])).bind fun all1=>(dr open1 0 (i64.wrap ((open1.length:Int)-r))).bind fun y1=>(hU y1 ([(i:Int)])).bind fun open2=>nx (i+1) all1 open2)
  |e2::tl1,i1,first,M'=>(gw all e2).bind fun e3=>(gw M' (i1:Int)).bind fun e4=>(some (M'.set (i1:Int).toNat e2)).bind fun ar=>(oZ nx i e1 all open1 r tl1) (i1+1) (min first e3) ar
def ni:List bw->Nat->(List Int)->(List Int)->Option ((List Int)×Bool)
  |[],i,all,open1=>some (all,(((open1.length:Int)==1)&&(decide ((all.length:Int)<=1000))))
  |e1::tl,i,all,open1=>(u3 e1.Tag).bind fun r=>(if(!((decide (r<0))||(decide ((open1.length:Int)<r))))then((yb e1).bind fun r1=>some (!r1))else some true).bind fun t=>if t then(some ([],false))else((dr open1 (i64.wrap ((open1.length:Int)-r)) (open1.length:Int)).bind fun y=>oZ (ni tl) i e1 all open1 r y 0 (i:Int) ([(-1),(-1)]))
def Bk(e:bQ):Option ((List Int)×Bool):=ni e.i' 0 ([]:List Int) ([]:List Int)
def xe(e:bQ):Option Int:=(Bk e).bind fun r=>if(!r.2)then(some 200)else(some 0)
def gh(i:Nat)(y:List Int):Nat->Nat->(List Int)->Int->Option (List Int)
  |0,i1,s1,k=>(dr s1 k (s1.length:Int)).bind fun y1=>(some (s1.take k.toNat++List.replicate y1.length 0)).bind fun cl=>(dr cl 0 k).bind fun y2=>some y2
  |k2+1,i1,s1,k=>(Jk s1 (i:Int) y.length (i1:Int)).bind fun e3=>(Jk s1 (i:Int) y.length (i64.wrap ((i1:Int)-1))).bind fun e4=>if(e3 !=e4)then((Jk s1 (i:Int) y.length (i1:Int)).bind fun e5=>(gw s1 k).bind fun e6=>(some (s1.set k.toNat e5)).bind fun st=>(gh i y k2) (i1+1) st (i64.wrap (k+1)))else((gh i y k2) (i1+1) s1 k)
def gU(bx:(List Int)):List Int->Nat->Option (List Int)
  |[],i=>some bx
  |e::tl,i=>(gw bx (i64.wrap ((i:Int)-1))).bind fun e1=>if(e==e1)then((dr bx (i:Int) (bx.length:Int)).bind fun y=>gh i y (y.length-1) 1 bx (i:Int))else((gU bx tl) (i+1))
def mq(bx:(List Int)):Option (List Int):=if(decide ((bx.length:Int)<2))then(some bx)else(gU bx (bx.drop (1)) 1)
def pJ:List bw->(List Int)->Option (List Int)
  |[],out=>(Hb out).bind fun srt=>(mq srt).bind fun r1=>some r1
  |e1::tl,out=>if(e1.Tag==2)then((hU out ([e1.o_])).bind fun n'=>(pJ tl) n')else((pJ tl) out)
def yT(e:bQ):Option (List Int):=(xe e).bind fun r=>if(r !=0)then(some ([]:List Int))else(pJ e.i' ([]:List Int))
def fN(bx:(List Int)):Option (List Int):=(hU ([]:List Int) bx).bind fun x=>some x
def s7(stack:(List Int))(k:Int):Option ((List Int)×(List Int)):=(dr stack (i64.wrap ((stack.length:Int)-k)) (stack.length:Int)).bind fun y=>(fN y).bind fun r=>(dr stack 0 (i64.wrap ((stack.length:Int)-k))).bind fun y1=>some (r,y1)
def oY(bad:Int)(stack:List Int):Option (Int×Int):=if(bad !=0)then(some (0,bad))else((gw stack 0).bind fun e1=>some (e1,0))
def jH(do1:(bw->(List Int)->Option (Int×Int))):List bw->Int->(List Int)->Option (Int×Int)
  |[],bad1,stack1=>oY bad1 stack1
  |e2::tl,bad1,stack1=>(u3 e2.Tag).bind fun r=>(s7 stack1 r).bind fun r1=>(do1 e2 r1.1).bind fun r2=>if(r2.2 !=0)then(oY r2.2 r1.2)else((hU r1.2 ([r2.1])).bind fun l2=>(jH do1 tl) bad1 l2)
def s3(e:bQ)(do1:(bw->(List Int)->Option (Int×Int))):Option (Int×Int):=jH do1 e.i' 0 ([]:List Int)
def Aj(tag:Int):Option Bool:=some ((tag==4)||((decide (12<=tag))&&(decide (tag<=15))))
def o0(g':(List Int))(n:bw):List Int->Int->Option (Int×Int)
  |[],own=>if(n.Tag==1)then(some (n.Value.Kind,0))else(if(n.Tag==2)then((gw g' n.o_).bind fun e1=>some (e1,0))else((Aj n.Tag).bind fun r=>if r then(if((own==(-1))||((own !=0)&&(own !=2)))then(some (0,201))else(some (2,0)))else(if(((n.Tag==5)||(n.Tag==22))||(n.Tag==23))then(if((own==(-1))||((own !=0)&&(own !=1)))then(some (0,201))else(some (1,0)))else(if((own==(-1))||((own !=0)&&(own !=own)))then(some (0,201))else(some (1,0))))))
  |e::tl,own=>if((e==0)||(e==own))then((o0 g' n tl) own)else(if(own==0)then((o0 g' n tl) e)else((o0 g' n tl) (-1)))
def lE(g':(List Int))(n:bw)(l:(List Int)):Option (Int×Int):=o0 g' n l 0
def pH(e:bQ)(g':(List Int)):List Int->Option (Int×Int)
 |[]=>(s3 e (lE g')).bind fun r2=>some (r2.1,r2.2)
 |e2::tl1=>if(decide ((g'.length:Int)<=e2))then(some (0,2))else((pH e g' tl1))
def uB(e:bQ)(g':(List Int)):List Int->Option (Int×Int)
 |[]=>(yT e).bind fun r1=>pH e g' r1
 |e1::tl=>if((decide (e1<0))||(decide (3<e1)))then(some (0,2))else((uB e g' tl))
def qr(e:bQ)(g':(List Int)):Option (Int×Int):=(xe e).bind fun r=>if(r !=0)then(some (0,r))else(uB e g' g')
def lV(e:bQ)(g':(List Int)):Option Bool:=(qr e g').bind fun r=>some ((r.2==0)&&((r.1==0)||(r.1==1)))
def jo(l:aE):Option (Bool×aE):=(kH ([l.a_,l.b])).bind fun r=>(lV ((({l with j':=r}:aE).n).c_) (({l with j':=r}:aE).j')).bind fun r1=>some (r1,({l with j':=r}:aE))
def ic(l:aE):Option (Bool×aE):=(lV ((({l with j':=l.a_}:aE).n).c_) (({l with j':=l.a_}:aE).a_)).bind fun r=>some (r,({l with j':=l.a_}:aE))
def gy(Z_:Bool->aE->Option (Bool×aE))(F':aE)(ok1:Bool)(k:Int):Option (Bool×aE):=(hU F'.j' ([k])).bind fun l7=>Z_ ok1 ({F' with j':=l7}:aE)
def ju(Z_:Bool->aE->Option (Bool×aE))(e1:f9)(ok:Bool)(F':aE)(r:Int×Int)(x:Bool):Option (Bool×aE):=if x then(gy Z_ F' (((ok&&(r.2==0))&&(decide (1<e1.Tag)))&&(decide (e1.Tag<=5))) r.1)else(gy Z_ F' (((ok&&(r.2==0))&&(decide (1<e1.Tag)))&&(decide (e1.Tag<=5))) 2)
def du:List f9->Bool->aE->Option (Bool×aE)
  |[],ok,F'=>some (ok,F')
  |e1::tl1,ok,F'=>if(e1.Tag==1)then(gy (du tl1) F' (ok&&((e1.Arg.i'.length:Int)==0)) 2)else((qr e1.Arg F'.a_).bind fun r=>if(e1.Tag==3)then(gy (du tl1) F' ((((ok&&(r.2==0))&&(decide (1<e1.Tag)))&&(decide (e1.Tag<=5)))&&((r.1==2)||(r.1==0))) 2)else(if(e1.Tag==4)then(ju (du tl1) e1 ok F' r (e1.Tag==4))else(ju (du tl1) e1 ok F' r (e1.Tag==5))))
def eW(l:aE):List Int->aE->Option (Bool×aE)
  |[],ob=>du l.n.u' (((decide ((l.n.v'.length:Int)<=3))&&(decide ((l.n.u'.length:Int)<=12)))&&(decide (0<(i64.wrap ((l.n.v'.length:Int)+(l.n.u'.length:Int)))))) ob
  |e::tl,ob=>if((decide (e<0))||(decide ((ob.a_.length:Int)<=e)))then(some (false,ob))else((gw ob.a_ e).bind fun e2=>(hU ob.j' ([e2])).bind fun l9=>(eW l tl) ({ob with j':=l9}:aE))
def gn(l:aE):Option (Bool×aE):=eW l l.n.v' ({l with j':=([]:List Int)}:aE)
def gT:List f9->Nat->aE->Option (Bool×aE)
  |[],i1,ob=>some (true,ob)
  |e::tl,i1,ob=>if(e.Tag==3)then((gw ob.j' (i64.wrap ((ob.n.v'.length:Int)+(i1:Int)))).bind fun e1=>(some (ob.j'.set (i64.wrap ((ob.n.v'.length:Int)+(i1:Int))).toNat 4)).bind fun st=>(gT tl) (i1+1) ({ob with j':=st}:aE))else((gT tl) (i1+1) ob)
def fW(l:aE):Option (Bool×aE):=(gn l).bind fun r=>if(!r.1)then(some (false,r.2))else(gT r.2.n.u' 0 r.2)
def jv(Z_:Nat->Bool->aE->Option (Bool×aE))(i1:Nat)(e2:f9)(ok1:Bool)(ob:aE)(e3:Int)(x1:Bool):Option (Bool×aE):=if x1 then(Z_ (i1+1) ((ok1&&((e2.Arg.i'.length:Int)==0))&&(e3 !=4)) ob)else(Z_ (i1+1) false ob)
def hD(l:aE)(Z_:Nat->Bool->aE->Option (Bool×aE))(i1:Nat)(e2:f9)(ok1:Bool)(ob:aE)(e3:Int)(x:Bool):Option (Bool×aE):=if x then(Z_ (i1+1) ((ok1&&((e2.Arg.i'.length:Int)==0))&&(e3==2)) ob)else(if(e2.Tag==3)then((gw ob.j' (i64.wrap ((l.n.v'.length:Int)+(i1:Int)))).bind fun e4=>(some (ob.j'.set (i64.wrap ((l.n.v'.length:Int)+(i1:Int))).toNat 2)).bind fun st=>Z_ (i1+1) ((ok1&&((e2.Arg.i'.length:Int)==0))&&(e3==4)) ({ob with j':=st}:aE))else(if(e2.Tag==4)then(jv Z_ i1 e2 ok1 ob e3 (e2.Tag==4))else(jv Z_ i1 e2 ok1 ob e3 (e2.Tag==5))))
def cW(l:aE):List f9->Nat->Bool->aE->Option (Bool×aE)
 |[],i1,ok1,ob=>some (ok1,ob)
 |e2::tl1,i1,ok1,ob=>(gw ob.a_ (i64.wrap ((l.n.v'.length:Int)+(i1:Int)))).bind fun e3=>if(e2.Tag==1)then(hD l (cW l tl1) i1 e2 ok1 ob e3 (e2.Tag==1))else(hD l (cW l tl1) i1 e2 ok1 ob e3 (e2.Tag==2))
def fX(l:aE)(r:(List Int)):List Int->Nat->Bool->Option (Bool×aE)
  |[],i,ok=>cW l l.n.u' 0 ok ({l with j':=r}:aE)
  |e1::tl,i,ok=>(if(ok&&(e1==(i:Int)))then((gw l.a_ (i:Int)).bind fun e5=>some (e5 !=4))else some false).bind fun t=>(fX l r tl) (i+1) t
def ff(l:aE):Option (Bool×aE):=(gw l.nodes l.n.A).bind fun e=>if(!((((e.Op==9)&&(decide ((l.n.v'.length:Int)<=3)))&&(decide ((l.n.u'.length:Int)<=12)))&&((i64.wrap ((l.n.v'.length:Int)+(l.n.u'.length:Int)))==(l.a_.length:Int))))then(some (false,l))else((fN l.a_).bind fun r=>fX l r l.n.v' 0 ((((e.Op==9)&&(decide ((l.n.v'.length:Int)<=3)))&&(decide ((l.n.u'.length:Int)<=12)))&&((i64.wrap ((l.n.v'.length:Int)+(l.n.u'.length:Int)))==(l.a_.length:Int))))
def go:List bQ->aE->Option (Bool×aE)
  |[],ob=>some (decide (0<(ob.j'.length:Int)),ob)
  |e::tl,ob=>(qr e ob.a_).bind fun r=>if(r.2 !=0)then(some (false,ob))else((hU ob.j' ([r.1])).bind fun l4=>(go tl) ({ob with j':=l4}:aE))
def j0(l:aE):Option (Bool×aE):=go l.n.D' ({l with j':=([]:List Int)}:aE)
def nI(l:aE):Option (Bool×aE):=some (true,({l with j':=l.a_}:aE))
def g9(nx:Nat->aE->Option (Bool×aE))(i:Nat)(ob:aE)(e1:Int)(k:Int):Option (Bool×aE):=if((e1 !=0)&&(e1 !=k))then(some (false,ob))else((hU ob.j' ([k])).bind fun l4=>nx (i+1) ({ob with j':=l4}:aE))
def eV:List Int->Nat->aE->Option (Bool×aE)
 |[],i,ob=>some (true,ob)
 |e::tl,i,ob=>(gw ob.b (i:Int)).bind fun e1=>if(e==0)then(g9 (eV tl) i ob e1 e1)else(g9 (eV tl) i ob e1 e)
def km(l:aE):Option (Bool×aE):=if((l.a_.length:Int) !=(l.b.length:Int))then(some (false,l))else(eV l.a_ 0 ({l with j':=([]:List Int)}:aE))
def fM(f:(jJ->Option Bool)):List jJ->Nat->Option Int
 |[],i=>some (-1)
 |e::tl,i=>(f e).bind fun r=>if r then(some (i:Int))else((fM f tl) (i+1))
def jT(bx:(List jJ))(f:(jJ->Option Bool)):Option Int:=fM f bx 0
def gK(bx:(List jJ))(f:(jJ->Option Bool)):Option Bool:=(jT bx f).bind fun r=>some (decide (0<=r))
def oS(l:aE)(o:jJ):Option Bool:=some ((decide (o.o_<0))||(decide ((l.a_.length:Int)<=o.o_)))
def lz(l:aE):Option (Bool×aE):=(gK ((({l with j':=l.a_}:aE).n).B') (oS ({l with j':=l.a_}:aE))).bind fun r=>some (((((!r)&&(decide ((((({l with j':=l.a_}:aE).n).B').length:Int)<=3)))&&(decide ((-1)<=((({l with j':=l.a_}:aE).n).J'))))&&(decide (((({l with j':=l.a_}:aE).n).J')<=2147483647))),({l with j':=l.a_}:aE))
def nJ:Option (List (Int×(aE->Unit->Option (Bool×aE)))):=some (vP (vP (vP (vP (vP (vP (vP (vP (vP (vP (vP ([]:List (Int×(aE->Unit->Option (Bool×aE)))) 1 (fun(mc:aE) (mx:Unit)=>lA mc)) 9 (fun(mc:aE) (mx:Unit)=>jr mc)) 2 (fun(mc:aE) (mx:Unit)=>jo mc)) 3 (fun(mc:aE) (mx:Unit)=>ic mc)) 4 (fun(mc:aE) (mx:Unit)=>gn mc)) 10 (fun(mc:aE) (mx:Unit)=>fW mc)) 11 (fun(mc:aE) (mx:Unit)=>ff mc)) 5 (fun(mc:aE) (mx:Unit)=>j0 mc)) 6 (fun(mc:aE) (mx:Unit)=>nI mc)) 7 (fun(mc:aE) (mx:Unit)=>km mc)) 8 (fun(mc:aE) (mx:Unit)=>lz mc))
def lb(x2:Bool):Option Int:=if x2 then(some 1)else(some (-1))
def vi(op:Int)(x1:Bool):Option Int:=if x1 then(some 2)else(if(op==3)then(lb (op==3))else(if(op==4)then(lb (op==4))else(if(op==5)then(lb (op==5))else(if(op==6)then(lb (op==6))else(if(op==8)then(lb (op==8))else(if(op==10)then(lb (op==10))else(lb (op==11))))))))
def vj(op:Int)(x:Bool):Option Int:=if x then(some 0)else(if(op==2)then(vi op (op==2))else(vi op (op==7)))
def zA(op:Int):Option Int:=if(op==1)then(vj op (op==1))else(vj op (op==9))
def uV(n:al):Option Bool:=some ((((((((n.Op==1)||(n.Op==9))||((n.Table==0)&&((n.A'.length:Int)==0)))&&((n.Op==2)||(!n.Left)))&&(((n.Op==2)||(n.Op==3))||((n.c_.i'.length:Int)==0)))&&((((n.Op==4)||(n.Op==10))||(n.Op==11))||((i64.wrap ((n.v'.length:Int)+(n.u'.length:Int)))==0)))&&((n.Op==5)||((n.D'.length:Int)==0)))&&((n.Op==8)||(((n.B'.length:Int)==0)&&(n.J'==0))))
def jy(v:Int):List Int->Nat->Option Int
 |[],i=>some (-1)
 |e::tl,i=>if(v==e)then(some (i:Int))else((jy v tl) (i+1))
def q0(bx:(List Int))(v:Int):Option Int:=jy v bx 0
def iI(bx:(List Int))(v:Int):Option Bool:=(q0 bx v).bind fun r=>some (decide (0<=r))
def bN(l:aE)(i:Int)(ask:(aE->Unit->Option (Bool×aE)))(e:al)(r:Int):List Int->Nat->(List Int)->(List Int)->Option (Bool×aE)
  |[],i5,a_,b3=>if(((e.Op==8)||(e.Op==10))&&(i !=(i64.wrap (((({({({({({l with n:=e}:aE)with a_:=[]}:aE)with b:=[]}:aE)with a_:=a_}:aE)with b:=b3}:aE).nodes).length:Int)-1))))then(some (false,({({({({({l with n:=e}:aE)with a_:=[]}:aE)with b:=[]}:aE)with a_:=a_}:aE)with b:=b3}:aE)))else((ask ({({({({({l with n:=e}:aE)with a_:=[]}:aE)with b:=[]}:aE)with a_:=a_}:aE)with b:=b3}:aE) ()).bind fun r2=>if((!r2.1)||(decide (16<(r2.2.j'.length:Int))))then(some (false,r2.2))else((hU r2.2.g' ([r2.2.j'])).bind fun l1=>(dr r2.2.m' 0 (i64.wrap ((r2.2.m'.length:Int)-r))).bind fun y2=>(hU y2 ([i])).bind fun l2=>some (true,({({r2.2 with g':=l1}:aE)with m':=l2}:aE))))
  |e1::tl,i5,a_,b3=>(gw l.g' e1).bind fun e2=>(if(e.Op !=11)then((iI e2 4).bind fun r3=>some r3)else some false).bind fun t1=>if t1 then(some (false,({({({({({l with n:=e}:aE)with a_:=[]}:aE)with b:=[]}:aE)with a_:=a_}:aE)with b:=b3}:aE)))else(if((i5:Int)==0)then((bN l i ask e r tl) (i5+1) (({({({({({({l with n:=e}:aE)with a_:=[]}:aE)with b:=[]}:aE)with a_:=a_}:aE)with b:=b3}:aE)with a_:=e2}:aE).a_) (({({({({({({l with n:=e}:aE)with a_:=[]}:aE)with b:=[]}:aE)with a_:=a_}:aE)with b:=b3}:aE)with a_:=e2}:aE).b))else((bN l i ask e r tl) (i5+1) (({({({({({({l with n:=e}:aE)with a_:=[]}:aE)with b:=[]}:aE)with a_:=a_}:aE)with b:=b3}:aE)with b:=e2}:aE).a_) (({({({({({({l with n:=e}:aE)with a_:=[]}:aE)with b:=[]}:aE)with a_:=a_}:aE)with b:=b3}:aE)with b:=e2}:aE).b)))
def eG(l:aE)(i:Int)(ask:(aE->Unit->Option (Bool×aE))):Option (Bool×aE):=(gw l.nodes i).bind fun e=>(zA e.Op).bind fun r=>(if(!((decide (r<0))||(decide ((l.m'.length:Int)<r))))then((uV e).bind fun r1=>some (!r1))else some true).bind fun t=>if t then(some (false,l))else((dr l.m' (i64.wrap ((l.m'.length:Int)-r)) (l.m'.length:Int)).bind fun y=>if(!decide ((sw ([(-1),(-1)]) y)=([e.A,e.B])))then(some (false,l))else((dr l.m' (i64.wrap ((l.m'.length:Int)-r)) (l.m'.length:Int)).bind fun y1=>bN l i ask e r y1 0 (({({({l with n:=e}:aE)with a_:=[]}:aE)with b:=[]}:aE).a_) (({({({l with n:=e}:aE)with a_:=[]}:aE)with b:=[]}:aE).b)))
def ql:List (List Int)->(List (List Int))->Option ((List (List Int))×Int×Int)
 |[],out=>some (out,0,0)
 |e::tl,out=>(fN e).bind fun r1=>(hU out ([r1])).bind fun n'=>(ql tl) n'
def od(ob:aE)(wrong1:Int):Option ((List (List Int))×Int×Int):=if(decide (0<=wrong1))then(some ([],wrong1,291))else(ql ob.g' ([]:List (List Int)))
def lc(nodes:(List al))(wrong:Int)(ob:aE):Option ((List (List Int))×Int×Int):=if((decide (wrong<0))&&((ob.m'.length:Int) !=1))then(od ob (i64.wrap ((nodes.length:Int)-1)))else(od ob wrong)
def gN(nodes:(List al))(r:(List (Int×(aE->Unit->Option (Bool×aE))))):List al->Nat->Int->aE->Option ((List (List Int))×Int×Int)
 |[],i1,wrong2,F'=>lc nodes wrong2 F'
 |e1::tl1,i1,wrong2,F'=>(eG F' (i1:Int) ((C5 r e1.Op).getD (fun _ _=>none))).bind fun r2=>if(!r2.1)then(lc nodes (i1:Int) r2.2)else((gN nodes r tl1) (i1+1) wrong2 r2.2)
def iP(nodes:(List al)):Option ((List (List Int))×Int×Int):=if((decide ((nodes.length:Int)<1))||(decide (60<(nodes.length:Int))))then(some ([],0,291))else((nJ).bind fun r=>gN nodes r nodes 0 (-1) (⟨nodes,[],[],⟨0,0,0,0,[],false,⟨[]⟩,[],[],[],[],0⟩,[],[],[]⟩:aE))
def qq(p:iG):List dl->Option Bool
  |[]=>some ((decide (1<=(p.L'.length:Int)))&&(decide ((p.L'.length:Int)<=30)))
  |e::tl=>(iP e.i').bind fun r=>(if(((decide (1<=e.Way))&&(decide (e.Way<=4)))&&(decide ((e.p_.length:Int)<=16)))then((gA e.p_ uv).bind fun r1=>some (!r1))else some false).bind fun t=>if(((r.2.2 !=0)||(!((e.At==1)||(e.At==2))))||(!t))then(some false)else((qq p tl))
def w8(p:iG):Option Bool:=qq p p.L'
def zE(n:Int):Option Bool:=some ((decide (1<=n))&&(decide (n<=2147483647)))
def fL(f:((List aD)->Option Bool)):List (List aD)->Nat->Option Int
 |[],i=>some (-1)
 |e::tl,i=>(f e).bind fun r=>if r then(some (i:Int))else((fL f tl) (i+1))
def jS(bx:(List (List aD)))(f:((List aD)->Option Bool)):Option Int:=fL f bx 0
def gJ(bx:(List (List aD)))(f:((List aD)->Option Bool)):Option Bool:=(jS bx f).bind fun r=>some (decide (0<=r))
def vv(v:aD):Option Bool:=(kj v).bind fun r=>some (r !=0)
def er(f:(aD->Option Bool)):List aD->Nat->Option Int
 |[],i=>some (-1)
 |e::tl,i=>(f e).bind fun r=>if r then(some (i:Int))else((er f tl) (i+1))
def mZ(bx:(List aD))(f:(aD->Option Bool)):Option Int:=er f bx 0
def iY(bx:(List aD))(f:(aD->Option Bool)):Option Bool:=(mZ bx f).bind fun r=>some (decide (0<=r))
def BC(r:(List aD)):Option Bool:=(if(decide ((r.length:Int)<=16))then((iY r vv).bind fun r1=>some (!r1))else some false).bind fun t=>some t
def BD(r:(List aD)):Option Int:=(BC r).bind fun r1=>if(!r1)then(some 150)else(some 0)
def A9(r:(List aD)):Option Bool:=(BD r).bind fun r1=>some (r1 !=0)
def BV(l:(List (List aD))):Option Bool:=(if((decide (0<(l.length:Int)))&&(decide ((l.length:Int)<=4)))then((gJ l A9).bind fun r=>some (!r))else some false).bind fun t=>some t
def zF(b:qG)(seq:Int):Option Bool:=if((decide (seq<1))||(decide (1099511627776<seq)))then(some false)else(if b.End then(some (((b.Rows.length:Int)==0)&&(b.s_==(u64.wrap (seq-1)))))else((if(b.s_==0)then((BV b.Rows).bind fun r=>some r)else some false).bind fun t=>some t))
def yF(a1:(List aD))(b:(List aD)):Option Bool:=(fS a1 b).bind fun r=>some r
def DP(a1:(List (List aD)))(b:(List (List aD))):Option Bool:=(dg a1 b yF).bind fun r=>some r
def BU(a1:qG)(b:qG):Option Bool:=(if((a1.End==b.End)&&(a1.s_==b.s_))then((DP a1.Rows b.Rows).bind fun r=>some r)else some false).bind fun t=>some t
def rY(p:di):Option Int:=(zE p.g_).bind fun r=>if(p.Kind==1)then((if(r&&(p.J'==0))then((zF p.Q' p.Seq).bind fun r1=>some r1)else some false).bind fun t=>if(!t)then(some 321)else(some 0))else(if(p.Kind==2)then((if r then((BU p.Q' (⟨[],false,0⟩:qG)).bind fun r2=>some r2)else some false).bind fun t1=>if(!((((t1&&(decide (1<=p.Seq)))&&(decide (p.Seq<=1099511627777)))&&(decide ((u64.wrap (p.Seq-1))<=p.J')))&&(decide (p.J'<=1099511627776))))then(some 321)else(some 0))else(if(!false)then(some 321)else(some 0)))
def j7(m:cH)(kind:Int):Option Bool:=(if(((decide (0<=m.e_))&&(decide (m.e_<30)))&&(m.C'.Kind==kind))then((rY m.C').bind fun r=>some (r==0))else some false).bind fun t=>some t
def pS(m:cH)(x:Bool):Option Bool:=if x then(some true)else(if(m.Kind==3)then(((j7 m) 1).bind fun r1=>some r1)else(if(m.Kind==4)then(((j7 m) 2).bind fun r2=>some r2)else(if(m.Kind==5)then(some ((m.G_==140)||(m.G_==300)))else(some false))))
def wp(m:cH):Option Bool:=if(m.Kind==1)then((if((decide (1<=m.U'))&&(decide (m.U'<=8)))then((w8 m.b_).bind fun r=>some r)else some false).bind fun t=>some t)else(if(m.Kind==2)then(pS m (m.Kind==2))else(if(m.Kind==6)then(pS m (m.Kind==6))else(pS m (m.Kind==7))))
def pc(m:cH):Option Bool:=(qp m.f_).bind fun r=>(if r then((qp m.To).bind fun r1=>some r1)else some false).bind fun t=>(if((t&&(decide (1<=m.P')))&&(decide (m.P'<=12)))then((xT m).bind fun r2=>some r2)else some false).bind fun t1=>(if t1 then((wp m).bind fun r3=>some r3)else some false).bind fun t2=>some t2
def qB:List Int->kb->Option kb
 |[],ob=>some ob
 |e::tl,ob=>(hU ob.bytes ([(u8.wrap e)])).bind fun l2=>(qB tl) ({ob with bytes:=l2}:kb)
def pA(w1:kb)(l:(List Int)):Option kb:=qB l w1
def xS(w1:kb)(is1:Bool):Option kb:=none
def xR(w1:kb)(p:iG):Option kb:=none
def vU(w1:kb)(p:di):Option kb:=none
def oU(m:cH)(r:kb)(x:Bool):Option kb:=if x then((pA r ([m.e_])).bind fun r3=>(vU r3 m.C').bind fun r4=>some r4)else(if(m.Kind==5)then((xS r (m.G_==300)).bind fun r5=>some r5)else(some r))
def vG(w1:kb)(m:cH):Option kb:=(pA w1 ([m.Kind,m.f_,m.To,m.P'])).bind fun r=>if(m.Kind==1)then((pA r ([m.U'])).bind fun r1=>(xR r1 m.b_).bind fun r2=>some r2)else(if(m.Kind==3)then(oU m r (m.Kind==3))else(oU m r (m.Kind==4)))
def Eh(m:cH):Option ((List Int)×Int):=(pc m).bind fun r=>if(!r)then(some ([],330))else((vG (⟨[]⟩:kb) m).bind fun r1=>(pn r1.bytes).bind fun r2=>if(decide (20000<(r2.length:Int)))then(some ([],330))else(some (r2,0)))
def pg(a1:(List Int))(b:(List Int)):Option Bool:=some ((mF a1)==(mF b))
def Ba:Option Bool:=(Eh (⟨2,2,0,3,0,0,⟨[]⟩,⟨0,0,0,0,⟨[],false,0⟩⟩,0⟩:cH)).bind fun r=>(if((r.2==0)&&((r.1.length:Int)==8))then((dr r.1 0 4).bind fun y=>(pg y ([2,2,0,3])).bind fun r1=>some r1)else some false).bind fun t=>some t
def qI(b:(List Int)):List Int->Nat->Option Bool
 |[],i=>some true
 |e::tl,i=>(gw b (i:Int)).bind fun e1=>if(e !=e1)then(some false)else((qI b tl) (i+1))
def oQ(a1:(List Int))(b:(List Int)):Option Bool:=if((a1.length:Int) !=(b.length:Int))then(some false)else(qI b a1 0)
def sR(b:bQ):List bw->Nat->Option Bool
 |[],i=>some true
 |e::tl,i=>(gw b.i' (i:Int)).bind fun e1=>if(!decide (e=e1))then(some false)else((sR b tl) (i+1))
def uS(a1:bQ)(b:bQ):Option Bool:=if((a1.i'.length:Int) !=(b.i'.length:Int))then(some false)else(sR b a1.i' 0)
def rQ(b:(List bQ)):List bQ->Nat->Option Bool
 |[],i=>some true
 |e::tl,i=>(gw b (i:Int)).bind fun e1=>(uS e e1).bind fun r=>if(!r)then(some false)else((rQ b tl) (i+1))
def vd(a1:(List bQ))(b:(List bQ)):Option Bool:=if((a1.length:Int) !=(b.length:Int))then(some false)else(rQ b a1 0)
def lI(a1:al)(b:al):Nat->Int->Option Bool
  |0,_=>none
  |n1+1,i1=>if(decide (i1<(a1.B'.length:Int)))then((gw a1.B' i1).bind fun e2=>(gw b.B' i1).bind fun e3=>if(!decide (e2=e3))then(some false)else((lI a1 b n1) (i64.wrap (i1+1))))else((uS a1.c_ b.c_).bind fun r3=>(if r3 then((vd a1.D' b.D').bind fun r4=>some r4)else some false).bind fun t3=>some t3)
def lJ(a1:al)(b:al):Nat->Int->Option Bool
  |0,_=>none
  |n+1,i=>if(decide (i<(a1.u'.length:Int)))then((gw a1.u' i).bind fun e=>(gw b.u' i).bind fun e1=>(if(!(e.Tag !=e1.Tag))then((uS e.Arg e1.Arg).bind fun r2=>some (!r2))else some true).bind fun t2=>if t2 then(some false)else((lJ a1 b n) (i64.wrap (i+1))))else(lI a1 b de 0)
def ul(a1:al)(b:al):Option Bool:=if((((((a1.Op !=b.Op)||(a1.A !=b.A))||(a1.B !=b.B))||(a1.Table !=b.Table))||(a1.Left !=b.Left))||(a1.J' !=b.J'))then(some false)else((if(!(((a1.u'.length:Int) !=(b.u'.length:Int))||((a1.B'.length:Int) !=(b.B'.length:Int))))then((oQ a1.A' b.A').bind fun r=>some (!r))else some true).bind fun t=>(if(!t)then((oQ a1.v' b.v').bind fun r1=>some (!r1))else some true).bind fun t1=>if t1 then(some false)else(lJ a1 b de 0))
def qf(a1:fx)(b:fx):Nat->Int->Option Bool
  |0,_=>none
  |n+1,i=>if(decide (i<(a1.i'.length:Int)))then((gw a1.i' i).bind fun e=>(gw b.i' i).bind fun e1=>(ul e e1).bind fun r=>if(!r)then(some false)else((qf a1 b n) (i64.wrap (i+1))))else(some true)
def zq(a1:fx)(b:fx):Option Bool:=if((a1.i'.length:Int) !=(b.i'.length:Int))then(some false)else(qf a1 b de 0)
def sQ(b:iG):List dl->Nat->Option Bool
  |[],i=>some true
  |e::tl,i=>(gw b.L' (i:Int)).bind fun e1=>(if(!((e.At !=e1.At)||(e.Way !=e1.Way)))then((oQ e.p_ e1.p_).bind fun r=>some (!r))else some true).bind fun t=>(if(!t)then((zq (⟨e.i'⟩:fx) (⟨e1.i'⟩:fx)).bind fun r1=>some (!r1))else some true).bind fun t1=>if t1 then(some false)else((sQ b tl) (i+1))
def zp(a1:iG)(b:iG):Option Bool:=if((a1.L'.length:Int) !=(b.L'.length:Int))then(some false)else(sQ b a1.L' 0)
def rR(b:(List aD)):List aD->Nat->Option Bool
 |[],i=>some true
 |e::tl,i=>(gw b (i:Int)).bind fun e1=>if(!decide (e=e1))then(some false)else((rR b tl) (i+1))
def vh(a1:(List aD))(b:(List aD)):Option Bool:=if((a1.length:Int) !=(b.length:Int))then(some false)else(rR b a1 0)
def vg(b:(List (List aD))):List (List aD)->Nat->Option Bool
 |[],i=>some true
 |e::tl,i=>(gw b (i:Int)).bind fun e1=>(vh e e1).bind fun r=>if(!r)then(some false)else((vg b tl) (i+1))
def zu(a1:(List (List aD)))(b:(List (List aD))):Option Bool:=if((a1.length:Int) !=(b.length:Int))then(some false)else(vg b a1 0)
def rO(a1:di)(b:di):Option Bool:=if((((a1.Kind !=b.Kind)||(a1.g_ !=b.g_))||(a1.Seq !=b.Seq))||(a1.J' !=b.J'))then(some false)else((if((a1.Q'.End==b.Q'.End)&&(a1.Q'.s_==b.Q'.s_))then((zu a1.Q'.Rows b.Q'.Rows).bind fun r=>some r)else some false).bind fun t=>some t)
def kN(a1:cH)(b:cH):Option Bool:=if(((((((a1.Kind !=b.Kind)||(a1.f_ !=b.f_))||(a1.To !=b.To))||(a1.P' !=b.P'))||(a1.e_ !=b.e_))||(a1.U' !=b.U'))||(a1.G_ !=b.G_))then(some false)else((rO a1.C' b.C').bind fun r=>(if r then((zp a1.b_ b.b_).bind fun r1=>some r1)else some false).bind fun t=>some t)
def mK:List Int->(List Int)->Option (List Int)
 |[],out=>some out
 |e::tl,out=>(hU out ([(u8.wrap e)])).bind fun n'=>(mK tl) n'
def pY(l:(List Int)):Option (List Int):=mK l ([(u8.wrap (l.length:Int))])
def nF(width:Int):Nat->(List Int)->Int->Int->Option (List Int)
  |0,_,_,_=>none
  |n2+1,out,n1,i=>if(decide (i<width))then((hU ([(u8.wrap ((n1).tmod 256))]) out).bind fun n'=>(nF width n2) n' (u64.wrap ((n1).tdiv 256)) (i64.wrap (i+1)))else(some out)
def gW(n:Int)(width:Int):Option (List Int):=nF width de ([]:List Int) n 0
def uQ(is1:Bool):Option Int:=if is1 then(some 1)else(some 0)
def nH(n:Int):Nat->(List Int)->Int->Option (List Int)
  |0,_,_=>none
  |n1+1,out,i=>if(decide (0<=i))then((ge0 (i64.wrap (8*i))).bind fun u=>(hU out ([(u8.wrap ((n).fdiv (2^(min (Int.toNat (i64.wrap (8*i))) u64.bits))))])).bind fun n'=>(nH n n1) n' (i64.wrap (i-1)))else(some out)
def py(n:Int):Option (List Int):=nH n de ([]:List Int) 7
def vz(v:aD):Option (List Int):=if(v.Kind==1)then((hU ([(u8.wrap v.Kind)]) ([(u8.wrap v.N)])).bind fun out=>some out)else(if(v.Kind==2)then((py (u64.wrap v.N)).bind fun r=>(hU ([(u8.wrap v.Kind)]) r).bind fun n'=>some n')else(if(v.Kind==3)then((hU ([(u8.wrap v.Kind)]) ([(u8.wrap (v.S.length:Int))])).bind fun l4=>(hU l4 (oE v.S)).bind fun V'=>some V')else(if(v.Kind==4)then((py (u64.wrap v.N)).bind fun r1=>(hU ([(u8.wrap v.Kind)]) r1).bind fun l6=>(py v.U).bind fun r2=>(hU l6 r2).bind fun y_=>some y_)else(some ([(u8.wrap v.Kind)])))))
def vb(nx:(List Int)->Int->Option (List Int))(i:Int)(e1:bw)(V':List Int):Option (List Int):=if(e1.Tag==1)then((vz e1.Value).bind fun r1=>(hU V' r1).bind fun y_=>nx y_ (i64.wrap (i+1)))else(nx V' (i64.wrap (i+1)))
def la(e:bQ):Nat->(List Int)->Int->Option (List Int)
  |0,_,_=>none
  |n+1,out,i=>if(decide (i<(e.i'.length:Int)))then((gw e.i' i).bind fun e1=>(hU out ([(u8.wrap e1.Tag)])).bind fun n'=>if(e1.Tag==2)then((hU n' ([(u8.wrap e1.o_)])).bind fun A_=>vb (la e n) i e1 A_)else(vb (la e n) i e1 n'))else(some out)
def tk(e:bQ):Option (List Int):=(gW (u64.wrap (e.i'.length:Int)) 2).bind fun r=>la e de r 0
def p9(n:al):Nat->(List Int)->Int->Option (List Int)
  |0,_,_=>none
  |n1+1,z_,i=>if(decide (i<(n.u'.length:Int)))then((gw n.u' i).bind fun e=>(hU z_ ([(u8.wrap e.Tag)])).bind fun out8=>(tk e.Arg).bind fun r5=>(hU out8 r5).bind fun out9=>(p9 n n1) out9 (i64.wrap (i+1)))else(some z_)
def p7(n:al):Nat->(List Int)->Int->Option (List Int)
  |0,_,_=>none
  |n2+1,P_,i1=>if(decide (i1<(n.D'.length:Int)))then((gw n.D' i1).bind fun e1=>(tk e1).bind fun r6=>(hU P_ r6).bind fun out12=>(p7 n n2) out12 (i64.wrap (i1+1)))else(some P_)
def p6(n:al):Nat->(List Int)->Int->Option (List Int)
  |0,_,_=>none
  |n3+1,T_,i2=>if(decide (i2<(n.B'.length:Int)))then((gw n.B' i2).bind fun e2=>(uQ e2.Desc).bind fun r7=>(hU T_ ([(u8.wrap e2.o_),r7])).bind fun out15=>(p6 n n3) out15 (i64.wrap (i2+1)))else((gW (u64.wrap (i64.wrap (n.J'+1))) 4).bind fun r8=>(hU T_ r8).bind fun out16=>some out16)
def n9(n:al)(x1:Bool):Option (List Int):=if x1 then((pY n.v').bind fun r4=>(hU ([(u8.wrap n.Op)]) r4).bind fun D_=>(hU D_ ([(u8.wrap (n.u'.length:Int))])).bind fun out6=>p9 n de out6 0)else(if(n.Op==5)then((hU ([(u8.wrap n.Op)]) ([(u8.wrap (n.D'.length:Int))])).bind fun out10=>p7 n de out10 0)else(if(n.Op==8)then((hU ([(u8.wrap n.Op)]) ([(u8.wrap (n.B'.length:Int))])).bind fun out13=>p6 n de out13 0)else(some ([(u8.wrap n.Op)]))))
def qa(n:al)(x:Bool):Option (List Int):=if x then((hU ([(u8.wrap n.Op)]) ([(u8.wrap n.Table)])).bind fun out=>(pY n.A').bind fun r=>(hU out r).bind fun n'=>some n')else(if(n.Op==2)then((uQ n.Left).bind fun r1=>(hU ([(u8.wrap n.Op)]) ([r1])).bind fun V'=>(tk n.c_).bind fun r2=>(hU V' r2).bind fun y_=>some y_)else(if(n.Op==3)then((tk n.c_).bind fun r3=>(hU ([(u8.wrap n.Op)]) r3).bind fun A_=>some A_)else(if(n.Op==4)then(n9 n (n.Op==4))else(if(n.Op==10)then(n9 n (n.Op==10))else(n9 n (n.Op==11))))))
def zl(n:al):Option (List Int):=if(n.Op==1)then(qa n (n.Op==1))else(qa n (n.Op==9))
def pZ(nx:(List Int)->Int->Option (List Int))(i:Int)(e:dl):Nat->(List Int)->Int->Option (List Int)
  |0,_,_=>none
  |n1+1,A_,k=>if(decide (k<(e.i'.length:Int)))then((gw e.i' k).bind fun e1=>(zl e1).bind fun r1=>(hU A_ r1).bind fun D_=>(pZ nx i e n1) D_ (i64.wrap (k+1)))else(nx A_ (i64.wrap (i+1)))
def n8(p:iG):Nat->(List Int)->Int->Option (List Int)
  |0,_,_=>none
  |n+1,out,i=>if(decide (i<(p.L'.length:Int)))then((gw p.L' i).bind fun e=>(hU out ([(u8.wrap e.At),(u8.wrap e.Way)])).bind fun n'=>(pY e.p_).bind fun r=>(hU n' r).bind fun V'=>(hU V' ([(u8.wrap (e.i'.length:Int))])).bind fun y_=>pZ (n8 p n) i e de y_ 0)else(some out)
def zk(p:iG):Option (List Int):=n8 p de ([(u8.wrap (p.L'.length:Int))]) 0
def ip(v:aD):Option Bool:=if(v.Kind==0)then(some (decide (v=(⟨0,0,0,[]⟩:aD))))else(if(v.Kind==1)then(some (((v.U==0)&&(v.S==([])))&&((v.N==0)||(v.N==1))))else(if(v.Kind==2)then(some ((v.U==0)&&(v.S==([]))))else(if(v.Kind==3)then(some (((v.N==0)&&(v.U==0))&&(decide ((v.S.length:Int)<=40))))else(some ((v.Kind==4)&&(v.S==([])))))))
def rU:List aD->(List Int)->Option ((List Int)×Int)
  |[],out=>some (out,0)
  |e::tl,out=>(ip e).bind fun r1=>if(!r1)then(some ([],120))else((vz e).bind fun r2=>(hU out r2).bind fun n'=>(rU tl) n')
def BE(r:(List aD)):Option ((List Int)×Int):=if(decide (16<(r.length:Int)))then(some ([],3))else(rU r ([(u8.wrap (r.length:Int))]))
def qj:List (List aD)->Nat->(List Int)->Option ((List Int)×Int×Int)
  |[],i,out=>some (out,0,0)
  |e::tl,i,out=>(BE e).bind fun r=>if(r.2 !=0)then(some ([],(i:Int),r.2))else((hU out r.1).bind fun n'=>(qj tl) (i+1) n')
def zw(l:(List (List aD))):Option ((List Int)×Int×Int):=if(decide (400<(l.length:Int)))then(some ([],0,3))else(qj l 0 ([(u8.wrap (i64.wrap (((l.length:Int)).tdiv 256))),(u8.wrap (((l.length:Int)).tmod 256))]))
def wl(d_:Int):Option Int:=some d_
def BF(register:Int)(one:Bool):Option Int:=if((((register).tmod 2)==1) !=one)then(wl (sO .xor .u32 (u32.wrap ((register).tdiv 2)) 2197175160))else(wl (u32.wrap ((register).tdiv 2)))
def oR(nx:Int->Option Int):Nat->Int->Int->Option Int
 |0,d_,c=>nx d_
 |k1+1,d_,c=>(BF d_ (((c).tmod 2)==1)).bind fun r=>(oR nx k1) r (u8.wrap ((c).tdiv 2))
def nd:List Int->Int->Option Int
 |[],register=>some (u32.wrap (4294967295-register))
 |e::tl,register=>oR (nd tl) 8 register e
def AX(b:(List Int)):Option Int:=nd b 4294967295
def zy(a1:(List Int))(b:(List Int)):Option (List Int):=(hU ([]:List Int) a1).bind fun l1=>(hU l1 b).bind fun x=>some x
def qk(b:(List Int)):Nat->(List Int)->Int->Option (List Int)
 |0,last,n=>(zy b last).bind fun r1=>some r1
 |k1+1,last,n=>(hU last ([(u8.wrap ((n).tmod 256))])).bind fun last1=>(qk b k1) last1 (u32.wrap ((n).tdiv 256))
def jZ(b:(List Int)):Option (List Int):=(AX b).bind fun r=>qk b 4 ([]:List Int) r
def o9(m:cH):Option (List Int):=if(m.Kind==1)then((hU ([(u8.wrap m.Kind),(u8.wrap m.f_),(u8.wrap m.To),(u8.wrap m.P')]) ([(u8.wrap m.U')])).bind fun out=>(zk m.b_).bind fun r=>(hU out r).bind fun n'=>(jZ n').bind fun r1=>some r1)else(if(m.Kind==3)then((hU ([(u8.wrap m.Kind),(u8.wrap m.f_),(u8.wrap m.To),(u8.wrap m.P')]) ([(u8.wrap m.e_)])).bind fun V'=>(gW (u64.wrap m.C'.g_) 4).bind fun r2=>(hU V' r2).bind fun y_=>(gW m.C'.Seq 8).bind fun r3=>(hU y_ r3).bind fun A_=>(uQ m.C'.Q'.End).bind fun r4=>(hU A_ ([r4])).bind fun D_=>if m.C'.Q'.End then((gW m.C'.Q'.s_ 8).bind fun r5=>(hU D_ r5).bind fun out6=>(jZ out6).bind fun r6=>some r6)else((zw m.C'.Q'.Rows).bind fun r7=>(hU D_ r7.1).bind fun z_=>(jZ z_).bind fun r8=>some r8))else(if(m.Kind==4)then((hU ([(u8.wrap m.Kind),(u8.wrap m.f_),(u8.wrap m.To),(u8.wrap m.P')]) ([(u8.wrap m.e_)])).bind fun out8=>(gW (u64.wrap m.C'.g_) 4).bind fun r9=>(hU out8 r9).bind fun out9=>(gW m.C'.Seq 8).bind fun r10=>(hU out9 r10).bind fun out10=>(gW m.C'.J' 8).bind fun r11=>(hU out10 r11).bind fun P_=>(jZ P_).bind fun r12=>some r12)else(if(m.Kind==5)then((uQ (m.G_==300)).bind fun r13=>(hU ([(u8.wrap m.Kind),(u8.wrap m.f_),(u8.wrap m.To),(u8.wrap m.P')]) ([r13])).bind fun out12=>(jZ out12).bind fun r14=>some r14)else((jZ ([(u8.wrap m.Kind),(u8.wrap m.f_),(u8.wrap m.To),(u8.wrap m.P')])).bind fun r15=>some r15))))
def lw(x1:Bool):Option Int:=if x1 then(some 1)else(some (-1))
def ri(op:Int)(x:Bool):Option Int:=if x then(some 2)else(if(op==3)then(lw (op==3))else(if(op==4)then(lw (op==4))else(if(op==5)then(lw (op==5))else(if(op==6)then(lw (op==6))else(lw (op==8))))))
def tH(op:Int):Option Int:=if(op==1)then(some 0)else(if(op==2)then(ri op (op==2))else(ri op (op==7)))
def uk(op:Int)(x:Bool):Option Int:=if x then(some 1)else((tH op).bind fun r=>some r)
def vw(op:Int):Option Int:=if(op==9)then(some 0)else(if(op==10)then(uk op (op==10))else(uk op (op==11)))
def iv:Nat->(List al)->Int->Option Int
  |0,_,_=>none
  |fu+1,l,M'=>if((decide (M'<0))||(decide ((l.length:Int)<=M')))then(some 0)else((gw l M').bind fun e=>(vw e.Op).bind fun r=>if(r==0)then(if((e.A==(-1))&&(e.B==(-1)))then(some 1)else(some 0))else(if(r==1)then(((iv fu) l (i64.wrap (M'-1))).bind fun r1=>if(((e.A==(i64.wrap (M'-1)))&&(e.B==(-1)))&&(decide (0<r1)))then(some (i64.wrap (r1+1)))else(some 0))else(if(r==2)then(((iv fu) l (i64.wrap (M'-1))).bind fun r2=>if(((r2==0)||(e.B !=(i64.wrap (M'-1))))||(e.A !=(i64.wrap ((i64.wrap (M'-1))-r2))))then(some 0)else(((iv fu) l e.A).bind fun r3=>if(decide (0<r3))then(some (i64.wrap ((i64.wrap (r3+r2))+1)))else(some 0)))else(some 0))))
def wW(l:(List al))(M':Int):Option Int:=iv de l M'
def qg(n:al):Option Bool:=if((n.Op !=1)&&((n.Table !=0)||(decide (0<(n.A'.length:Int)))))then(some false)else(if(((n.Op !=2)&&n.Left)||(((n.Op !=2)&&(n.Op !=3))&&(decide (0<(n.c_.i'.length:Int)))))then(some false)else(if(((n.Op !=4)&&((decide (0<(n.v'.length:Int)))||(decide (0<(n.u'.length:Int)))))||((n.Op !=5)&&(decide (0<(n.D'.length:Int)))))then(some false)else(some ((n.Op==8)||(((n.B'.length:Int)==0)&&(n.J'==0))))))
def px(n:al)(x:Bool):Option Bool:=if x then((qg (al.mk 4 n.A n.B n.Table n.A' n.Left n.c_ n.v' n.u' n.D' n.B' n.J')).bind fun r1=>some r1)else((qg n).bind fun r2=>some r2)
def qe(n:al):Option Bool:=if(n.Op==9)then((qg (al.mk 1 n.A n.B n.Table n.A' n.Left n.c_ n.v' n.u' n.D' n.B' n.J')).bind fun r=>some r)else(if(n.Op==10)then(px n (n.Op==10))else(px n (n.Op==11)))
def oO(n:al):List Int->Bool->Option ((List Int)×Bool)
 |[],ok=>some (n.A',ok)
 |e::tl,ok=>(oO n tl) ((ok&&(decide (0<=e)))&&(decide (e<=4)))
def xD(n:al):Option ((List Int)×Bool):=oO n n.A' ((((decide (0<=n.Table))&&(decide (n.Table<30)))&&(decide (1<=(n.A'.length:Int))))&&(decide ((n.A'.length:Int)<=16)))
def vc:List Int->Option Bool
 |[]=>some false
 |e::tl=>if(e==4)then(some true)else((vc tl))
def zn(g':(List Int)):Option Bool:=vc g'
def ym(Z_:bQ->Option bQ)(n':bQ)(n1:bw):Option bQ:=(hU n'.i' ([n1])).bind fun l5=>Z_ ({n' with i':=l5}:bQ)
def yn(out:bQ)(Z_:bQ->Option bQ)(n':bQ)(n:bw):Option bQ:=if(decide (0<=n.R))then(ym Z_ n' (bw.mk n.Tag n.L (i64.wrap (n.R+(out.i'.length:Int))) n.o_ n.Value))else(ym Z_ n' n)
def qh(nx:Nat->bw->bQ->Option bQ)(i:Nat)(i_:bw)(out:bQ):List bw->bQ->Option bQ
 |[],n'=>if((i:Int)==0)then(nx (i+1) (bw.mk i_.Tag (i64.wrap ((n'.i'.length:Int)-1)) i_.R i_.o_ i_.Value) n')else(nx (i+1) (bw.mk i_.Tag i_.L (i64.wrap ((n'.i'.length:Int)-1)) i_.o_ i_.Value) n')
 |e1::tl1,n'=>if(decide (0<=e1.L))then(yn out (qh nx i i_ out tl1) n' (bw.mk e1.Tag (i64.wrap (e1.L+(out.i'.length:Int))) e1.R e1.o_ e1.Value))else(yn out (qh nx i i_ out tl1) n' e1)
def oc:List bQ->Nat->bw->bQ->Option bQ
 |[],i,i_,out=>(hU out.i' ([i_])).bind fun l2=>some ({out with i':=l2}:bQ)
 |e::tl,i,i_,out=>qh (oc tl) i i_ out e.i' out
def zt(root:bw)(l:(List bQ)):Option bQ:=oc l 0 (bw.mk root.Tag (-1) (-1) root.o_ root.Value) (⟨([]:List bw)⟩:bQ)
def fg:Nat->fx->Int->Option Int
  |0,_,_=>none
  |fu+1,l,M'=>if((decide (M'<0))||(decide ((l.i'.length:Int)<=M')))then(some 0)else((gw l.i' M').bind fun e=>(tH e.Op).bind fun r=>if(r==0)then(if((e.A==(-1))&&(e.B==(-1)))then(some 1)else(some 0))else(if(r==1)then(if((e.A==(i64.wrap (M'-1)))&&(e.B==(-1)))then(((fg fu) l e.A).bind fun r1=>if(decide (0<r1))then(some (i64.wrap (r1+1)))else(some 0))else(some 0))else(if(r==2)then(if(e.B==(i64.wrap (M'-1)))then(((fg fu) l e.B).bind fun r2=>if((decide (0<r2))&&(e.A==(i64.wrap (e.B-r2))))then(((fg fu) l e.A).bind fun r3=>if(decide (0<r3))then(some (i64.wrap ((i64.wrap (r3+r2))+1)))else(some 0))else(some 0))else(some 0))else(some 0))))
def C0(l:fx)(M':Int):Option Int:=fg de l M'
def AV(tag:Int):Option Int:=if((decide (tag<1))||(decide (23<tag)))then(some (-1))else(if(decide (tag<=3))then(some 0)else(if(decide (tag<=11))then(some 1)else(some 2)))
def vy(tag:Int):Option Int:=if((tag==3)||((decide (8<=tag))&&(decide (tag<=11))))then(some (-1))else((AV tag).bind fun r=>some r)
def xI(v:aD):Option Bool:=(ip v).bind fun r=>some (r&&(v.Kind !=4))
def mu(n:bw):Option Bool:=if(n.Tag==1)then((xI n.Value).bind fun r=>some (r&&(n.o_==0)))else(if(n.Tag==2)then(some (((decide (n.Value=(⟨0,0,0,[]⟩:aD)))&&(decide (0<=n.o_)))&&(decide (n.o_<16))))else(some ((decide (n.Value=(⟨0,0,0,[]⟩:aD)))&&(n.o_==0))))
def jY:Nat->bQ->Int->Option Int
  |0,_,_=>none
  |fu+1,e,place=>if((decide (place<0))||(decide ((e.i'.length:Int)<=place)))then(some 0)else((gw e.i' place).bind fun e1=>(vy e1.Tag).bind fun r=>(if(!(decide (r<0)))then((mu e1).bind fun r1=>some (!r1))else some true).bind fun t=>if t then(some 0)else(if(r==0)then(if((e1.L !=(-1))||(e1.R !=(-1)))then(some 0)else(some 1))else(((jY fu) e (i64.wrap (place-1))).bind fun r2=>if(r2==0)then(some 0)else(if(r==1)then(if((e1.L !=(i64.wrap (place-1)))||(e1.R !=(-1)))then(some 0)else(some (i64.wrap (r2+1))))else(((jY fu) e (i64.wrap ((i64.wrap (place-1))-r2))).bind fun r3=>if(((r3==0)||(e1.R !=(i64.wrap (place-1))))||(e1.L !=(i64.wrap ((i64.wrap (place-1))-r2))))then(some 0)else(some (i64.wrap ((i64.wrap (r3+r2))+1))))))))
def C1(e:bQ)(place:Int):Option Int:=jY de e place
def xE(e:bQ):Option Bool:=(if((decide (1<=(e.i'.length:Int)))&&(decide ((e.i'.length:Int)<=1000)))then((C1 e (i64.wrap ((e.i'.length:Int)-1))).bind fun r=>some (r==(e.i'.length:Int)))else some false).bind fun t=>some t
def tm(k:Int)(want:Int):Option Bool:=some ((k==want)||(k==0))
def uR(tag:Int)(l:Int)(r:Int):Option (Int×Bool):=if((tag==4)||((decide (12<=tag))&&(decide (tag<=15))))then((tm l 2).bind fun r1=>(if r1 then((tm r 2).bind fun r2=>some r2)else some false).bind fun t=>some (2,t))else(if((tag==5)||(decide (22<=tag)))then((tm l 1).bind fun r3=>(if r3 then((tm r 1).bind fun r4=>some r4)else some false).bind fun t1=>some (1,t1))else(if((tag==6)||(tag==7))then(some (1,true))else(some (1,(((l==r)||(l==0))||(r==0))))))
def sU(nx2:(List Int)->Option (Int×Int))(e3:bw)(own:List Int)(e6:Int)(r1:Int):Option (Int×Int):=(uR e3.Tag e6 r1).bind fun r2=>if(!r2.2)then(some (0,201))else((hU own ([r2.1])).bind fun own3=>nx2 own3)
def eI(g':(List Int)):List bw->(List Int)->Option (Int×Int)
  |[],own=>(gw own (i64.wrap ((own.length:Int)-1))).bind fun e4=>some (e4,0)
  |e3::tl2,own=>if(e3.Tag==1)then((hU own ([e3.Value.Kind])).bind fun own1=>(eI g' tl2) own1)else(if(e3.Tag==2)then((gw g' e3.o_).bind fun e5=>(hU own ([e5])).bind fun own2=>(eI g' tl2) own2)else((gw own e3.L).bind fun e6=>if(decide (0<=e3.R))then((gw own e3.R).bind fun e7=>sU (eI g' tl2) e3 own e6 e7)else(sU (eI g' tl2) e3 own e6 0)))
def qi(e:bQ)(g':(List Int)):List bw->Option (Int×Int)
 |[]=>eI g' e.i' ([]:List Int)
 |e2::tl1=>if((e2.Tag==2)&&(decide ((g'.length:Int)<=e2.o_)))then(some (0,2))else((qi e g' tl1))
def sS(e:bQ)(g':(List Int)):List Int->Option (Int×Int)
 |[]=>qi e g' e.i'
 |e1::tl=>if((decide (e1<0))||(decide (3<e1)))then(some (0,2))else((sS e g' tl))
def uT(e:bQ)(g':(List Int)):Option (Int×Int):=(xE e).bind fun r=>if(!r)then(some (0,200))else(sS e g' g')
def vx(e:bQ)(g':(List Int)):Option Bool:=(uT e g').bind fun r=>some ((r.2==0)&&((r.1==0)||(r.1==1)))
def nG(a1:f9)(g':(List Int)):Option (Int×Bool):=if(a1.Tag==1)then(some (2,((a1.Arg.i'.length:Int)==0)))else((uT a1.Arg g').bind fun r=>if(((decide (a1.Tag<1))||(decide (5<a1.Tag)))||(r.2 !=0))then(some (0,false))else(if(((a1.Tag==3)&&(r.1 !=2))&&(r.1 !=0))then(some (0,false))else(if(decide (4<=a1.Tag))then(some (r.1,true))else(some (2,true)))))
def jX(n:al):Nat->Bool->Int->Option ((List Int)×Bool)
  |0,_,_=>none
  |n1+1,ok,i=>if(decide (i<(n.A'.length:Int)))then((if ok then((gw n.A' i).bind fun e=>some (decide (1<=e)))else some false).bind fun t=>(if t then((gw n.A' i).bind fun e1=>some (decide (e1<=3)))else some false).bind fun t1=>(jX n n1) t1 (i64.wrap (i+1)))else(some (n.A',((((ok&&(decide (0<=n.Table)))&&(decide (n.Table<=3)))&&(decide (1<=(n.A'.length:Int))))&&(decide ((n.A'.length:Int)<=4)))))
def m9(n:al)(a1:(List Int)):Nat->(List Int)->Bool->Int->Option ((List Int)×Bool)
  |0,_,_,_=>none
  |n3+1,y_,ok1,i2=>if(decide (i2<(n.u'.length:Int)))then((gw n.u' i2).bind fun e4=>(nG e4 a1).bind fun r2=>(hU y_ ([r2.1])).bind fun A_=>(m9 n a1 n3) A_ (ok1&&r2.2) (i64.wrap (i2+1)))else(some (y_,(((ok1&&(decide ((n.v'.length:Int)<=3)))&&(decide ((n.u'.length:Int)<=12)))&&(decide (0<(y_.length:Int))))))
def na(n:al)(a1:(List Int)):Nat->(List Int)->Int->Option ((List Int)×Bool)
  |0,_,_=>none
  |n2+1,n',i1=>if(decide (i1<(n.v'.length:Int)))then((gw n.v' i1).bind fun e2=>if((decide (e2<0))||(decide ((a1.length:Int)<=e2)))then(some ([],false))else((gw a1 e2).bind fun e3=>(hU n' ([e3])).bind fun V'=>(na n a1 n2) V' (i64.wrap (i1+1))))else(m9 n a1 de n' true 0)
def m8(n:al)(a1:(List Int)):Nat->(List Int)->Bool->Int->Option ((List Int)×Bool)
  |0,_,_,_=>none
  |n4+1,D_,ok2,i3=>if(decide (i3<(n.D'.length:Int)))then((gw n.D' i3).bind fun e5=>(uT e5 a1).bind fun r3=>(hU D_ ([r3.1])).bind fun out6=>(m8 n a1 n4) out6 (ok2&&(r3.2==0)) (i64.wrap (i3+1)))else(some (D_,((ok2&&(decide (1<=(D_.length:Int))))&&(decide ((D_.length:Int)<=16)))))
def rh(b:(List Int))(nx4:Nat->(List Int)->Bool->Option ((List Int)×Bool))(i4:Nat)(z_:List Int)(ok3:Bool)(k:Int):Option ((List Int)×Bool):=(hU z_ ([k])).bind fun out8=>(if ok3 then((gw b (i4:Int)).bind fun e7=>(if(!(e7==k))then((gw b (i4:Int)).bind fun e8=>some (e8==0))else some true).bind fun t3=>some t3)else some false).bind fun t2=>nx4 (i4+1) out8 t2
def jW(b:(List Int)):List Int->Nat->(List Int)->Bool->Option ((List Int)×Bool)
  |[],i4,z_,ok3=>some (z_,ok3)
  |e6::tl,i4,z_,ok3=>if(e6==0)then((gw b (i4:Int)).bind fun e9=>rh b (jW b tl) i4 z_ ok3 e9)else(rh b (jW b tl) i4 z_ ok3 e6)
def jV(n:al)(a1:(List Int)):Nat->Bool->Int->Option ((List Int)×Bool)
  |0,_,_=>none
  |n5+1,ok4,i5=>if(decide (i5<(n.B'.length:Int)))then((if ok4 then((gw n.B' i5).bind fun e10=>some (decide (0<=e10.o_)))else some false).bind fun t4=>(if t4 then((gw n.B' i5).bind fun e11=>some (decide (e11.o_<(a1.length:Int))))else some false).bind fun t5=>(jV n a1 n5) t5 (i64.wrap (i5+1)))else(some (a1,(((ok4&&(decide ((n.B'.length:Int)<=3)))&&(decide ((-1)<=n.J')))&&(decide (n.J'<=2147483647)))))
def dq(n:al)(a1:(List Int))(b:(List Int)):Option ((List Int)×Bool):=if(n.Op==1)then(jX n de true 0)else(if(n.Op==2)then((hU ([]:List Int) a1).bind fun l=>(hU l b).bind fun out=>(vx n.c_ out).bind fun r=>some (out,r))else(if(n.Op==3)then((vx n.c_ a1).bind fun r1=>some (a1,r1))else(if(n.Op==4)then(na n a1 de ([]:List Int) 0)else(if(n.Op==5)then(m8 n a1 de ([]:List Int) true 0)else(if(n.Op==6)then(some (a1,true))else(if(n.Op==7)then(if((a1.length:Int) !=(b.length:Int))then(some ([],false))else(jW b a1 0 ([]:List Int) true))else(jV n a1 de true 0)))))))
def lx(l:fx)(M':Int)(e1:al)(a1:(List Int))(b1:(List Int)):Option ((List Int)×Bool):=(dq e1 a1 b1).bind fun r2=>if(((e1.Op==8)&&(M' !=(i64.wrap ((l.i'.length:Int)-1))))||(decide (16<(r2.1.length:Int))))then(some ([],false))else(some (r2.1,r2.2))
def nc(self__:fx->Int->Option ((List Int)×Bool))(l:fx)(M':Int)(e1:al)(a1:(List Int)):Option ((List Int)×Bool):=if(decide (0<=e1.B))then((self__ l e1.B).bind fun r3=>if(!r3.2)then(some ([],false))else(lx l M' e1 a1 r3.1))else(lx l M' e1 a1 ([]))
def ib:Nat->fx->Int->Option ((List Int)×Bool)
  |0,_,_=>none
  |fu+1,l,M'=>(C0 l M').bind fun r=>(if(!(r==0))then((gw l.i' M').bind fun e=>(qg e).bind fun r1=>some (!r1))else some true).bind fun t=>if t then(some ([],false))else((gw l.i' M').bind fun e1=>if(decide (0<=e1.A))then(((ib fu) l e1.A).bind fun r4=>if(!r4.2)then(some ([],false))else(nc (ib fu) l M' e1 r4.1))else(nc (ib fu) l M' e1 ([])))
def pb(l:fx)(M':Int):Option ((List Int)×Bool):=ib de l M'
def nO(Z_:al->Option ((List Int)×Bool))(p:al)(e2:bw):Option ((List Int)×Bool):=(zt e2 ([])).bind fun r2=>(hU p.D' ([r2])).bind fun l7=>Z_ ({p with D':=l7}:al)
def eT(nx:Nat->al->fx->Option ((List Int)×Bool))(i:Nat)(n1:al)(l:fx):List Int->al->Option ((List Int)×Bool)
 |[],p=>(hU l.i' ([(⟨1,(-1),(-1),0,[1,2,3],false,⟨[]⟩,[],[],[],[],0⟩:al),p])).bind fun l5=>if((i:Int)==0)then(nx (i+1) (al.mk n1.Op (i64.wrap ((l5.length:Int)-1)) n1.B n1.Table n1.A' n1.Left n1.c_ n1.v' n1.u' n1.D' n1.B' n1.J') ({l with i':=l5}:fx))else(nx (i+1) (al.mk n1.Op n1.A (i64.wrap ((l5.length:Int)-1)) n1.Table n1.A' n1.Left n1.c_ n1.v' n1.u' n1.D' n1.B' n1.J') ({l with i':=l5}:fx))
 |e1::tl1,p=>if(decide (0<e1))then(nO (eT nx i n1 l tl1) p (⟨2,0,0,(i64.wrap (e1-1)),⟨0,0,0,[]⟩⟩:bw))else(nO (eT nx i n1 l tl1) p (⟨1,0,0,0,⟨0,0,0,[]⟩⟩:bw))
def cA:List (List Int)->Nat->al->fx->Option ((List Int)×Bool)
 |[],i,n1,l=>(hU l.i' ([n1])).bind fun l2=>(pb ({l with i':=l2}:fx) (i64.wrap ((l2.length:Int)-1))).bind fun r=>some (r.1,r.2)
 |e::tl,i,n1,l=>(zn e).bind fun r1=>if r1 then(some ([],false))else(eT (cA tl) i n1 l e (⟨5,(l.i'.length:Int),(-1),0,[],false,⟨[]⟩,[],[],([]:List bQ),[],0⟩:al))
def eP(n:al)(parts:(List (List Int))):Option ((List Int)×Bool):=cA parts 0 n (⟨([]:List al)⟩:fx)
def mL(n:al):List f9->Nat->(List Int)->Option (List Int)
  |[],i,n'=>some n'
  |e::tl,i,n'=>if(e.Tag==3)then((gw n' (i64.wrap ((n.v'.length:Int)+(i:Int)))).bind fun e1=>(some (n'.set (i64.wrap ((n.v'.length:Int)+(i:Int))).toNat 4)).bind fun st=>(mL n tl) (i+1) st)else((mL n tl) (i+1) n')
def qd(n:al)(g':(List Int)):Option (List Int):=(hU ([]:List Int) g').bind fun out=>mL n n.u' 0 out
def ra(Z_:Nat->(List Int)->Option ((List Int)×Bool))(i1:Nat)(n':List Int)(e2:Int)(x1:Bool):Option ((List Int)×Bool):=if x1 then(if(e2==4)then(some ([],false))else((hU n' ([e2])).bind fun A_=>Z_ (i1+1) A_))else(some ([],false))
def rb(Z_:Nat->(List Int)->Option ((List Int)×Bool))(i1:Nat)(e1:f9)(n':List Int)(e2:Int)(x:Bool):Option ((List Int)×Bool):=if x then(if(e2 !=2)then(some ([],false))else((hU n' ([e2])).bind fun V'=>Z_ (i1+1) V'))else(if(e1.Tag==3)then(if(e2 !=4)then(some ([],false))else((hU n' ([2])).bind fun y_=>Z_ (i1+1) y_))else(if(e1.Tag==4)then(ra Z_ i1 n' e2 (e1.Tag==4))else(ra Z_ i1 n' e2 (e1.Tag==5))))
def gC(n:al)(a1:(List Int)):List f9->Nat->(List Int)->Option ((List Int)×Bool)
  |[],i1,n'=>some (n',true)
  |e1::tl1,i1,n'=>(gw a1 (i64.wrap ((n.v'.length:Int)+(i1:Int)))).bind fun e2=>if(decide (0<(e1.Arg.i'.length:Int)))then(some ([],false))else(if(e1.Tag==1)then(rb (gC n a1 tl1) i1 e1 n' e2 (e1.Tag==1))else(rb (gC n a1 tl1) i1 e1 n' e2 (e1.Tag==2)))
def oP(n:al)(a1:(List Int)):List Int->Nat->(List Int)->Option ((List Int)×Bool)
  |[],i,out=>gC n a1 n.u' 0 out
  |e::tl,i,out=>(if(!(e !=(i:Int)))then((gw a1 (i:Int)).bind fun e3=>some (e3==4))else some true).bind fun t=>if t then(some ([],false))else((gw a1 (i:Int)).bind fun e4=>(hU out ([e4])).bind fun D_=>(oP n a1 tl) (i+1) D_)
def re(n:al)(a1:(List Int)):Option ((List Int)×Bool):=if((((decide (3<(n.v'.length:Int)))||(decide (12<(n.u'.length:Int))))||((i64.wrap ((n.v'.length:Int)+(n.u'.length:Int))) !=(a1.length:Int)))||((a1.length:Int)==0))then(some ([],false))else(oP n a1 n.v' 0 ([]:List Int))
def ez(l:(List al))(nx:Nat->(List (List Int))->Option ((List (List Int))×Int))(i:Nat)(e:al)(out:List (List Int))(ok:Bool)(k:(List Int)):Option ((List (List Int))×Int):=if((!ok)||(((e.Op==8)||(e.Op==10))&&((i:Int) !=(i64.wrap ((l.length:Int)-1)))))then(some ([],(i:Int)))else((hU out ([k])).bind fun n'=>nx (i+1) n')
def fJ(l:(List al))(nx:Nat->(List (List Int))->Option ((List (List Int))×Int))(i:Nat)(e:al)(out:List (List Int))(parts1:List (List Int)):Option ((List (List Int))×Int):=if(e.Op==9)then((xD e).bind fun r3=>ez l nx i e out r3.2 r3.1)else(if(e.Op==10)then((eP (al.mk 4 e.A e.B e.Table e.A' e.Left e.c_ e.v' e.u' e.D' e.B' e.J') parts1).bind fun r4=>if r4.2 then((qd e r4.1).bind fun r5=>ez l nx i e out r4.2 r5)else(ez l nx i e out r4.2 r4.1))else(if(e.Op==11)then((gw parts1 0).bind fun e1=>(re e e1).bind fun r6=>(if r6.2 then((gw l e.A).bind fun e2=>some (e2.Op==9))else some false).bind fun t1=>ez l nx i e out t1 r6.1)else(if(e.Op==1)then((eP e ([])).bind fun r7=>ez l nx i e out r7.2 r7.1)else((eP e parts1).bind fun r8=>ez l nx i e out r8.2 r8.1))))
def rf(l:(List al))(nx:Nat->(List (List Int))->Option ((List (List Int))×Int))(i:Nat)(e:al)(out:List (List Int))(parts:List (List Int)):Option ((List (List Int))×Int):=if(decide (0<=e.B))then((gw out e.B).bind fun e3=>(hU parts ([e3])).bind fun parts2=>fJ l nx i e out parts2)else(fJ l nx i e out parts)
def dC(l:(List al)):List al->Nat->(List (List Int))->Option ((List (List Int))×Int)
  |[],i,out=>(wW l (i64.wrap ((l.length:Int)-1))).bind fun r=>if(r !=(l.length:Int))then(some ([],(i64.wrap ((l.length:Int)-1))))else(some (out,(-1)))
  |e::tl,i,out=>(wW l (i:Int)).bind fun r1=>(if(decide (0<r1))then((qe e).bind fun r2=>some r2)else some false).bind fun t=>if t then(if(decide (0<=e.A))then((gw out e.A).bind fun e4=>(hU ([]:List (List Int)) ([e4])).bind fun parts3=>rf l (dC l tl) i e out parts3)else(rf l (dC l tl) i e out ([]:List (List Int))))else(ez l (dC l tl) i e out t ([]))
def rg(l:(List al)):Option ((List (List Int))×Int):=if((decide ((l.length:Int)<1))||(decide (60<(l.length:Int))))then(some ([],0))else(dC l l 0 ([]:List (List Int)))
def qb(nx:Int->Option Bool)(i:Int)(e:dl):Nat->Int->Option Bool
  |0,_=>none
  |n1+1,k=>if(decide (k<(e.p_.length:Int)))then((gw e.p_ k).bind fun e1=>if((decide (e1<0))||(decide (15<e1)))then(some false)else((qb nx i e n1) (i64.wrap (k+1))))else((rg e.i').bind fun r=>if(decide (0<=r.2))then(some false)else(nx (i64.wrap (i+1))))
def oa(p:iG):Nat->Int->Option Bool
  |0,_=>none
  |n+1,i=>if(decide (i<(p.L'.length:Int)))then((gw p.L' i).bind fun e=>if(((((e.At !=1)&&(e.At !=2))||(decide (e.Way<1)))||(decide (4<e.Way)))||(decide (16<(e.p_.length:Int))))then(some false)else(qb (oa p n) i e de 0))else(some true)
def wV(p:iG):Option Bool:=if((decide ((p.L'.length:Int)<1))||(decide (30<(p.L'.length:Int))))then(some false)else(oa p de 0)
def yl(n:Int):Option Bool:=some ((decide (1<=n))&&(decide (n<=2147483647)))
def rl:List aD->Option Bool
 |[]=>some true
 |e::tl=>(ip e).bind fun r1=>if(!r1)then(some false)else((rl tl))
def xG(r:(List aD)):Option Bool:=if(decide (16<(r.length:Int)))then(some false)else(rl r)
def qc(l:(List (List aD))):List (List aD)->Option Bool
 |[]=>some ((decide (1<=(l.length:Int)))&&(decide ((l.length:Int)<=4)))
 |e::tl=>(xG e).bind fun r=>if(!r)then(some false)else((qc l tl))
def zm(l:(List (List aD))):Option Bool:=qc l l
def xC(b:qG)(seq:Int):Option Bool:=if((decide (seq<1))||(decide (1099511627776<seq)))then(some false)else(if b.End then(some (((b.Rows.length:Int)==0)&&(b.s_==(u64.wrap (seq-1)))))else((if(b.s_==0)then((zm b.Rows).bind fun r=>some r)else some false).bind fun t=>some t))
def wk(p:di):Option Bool:=(yl p.g_).bind fun r=>if(!r)then(some false)else(if(p.Kind==1)then((if(p.J'==0)then((xC p.Q' p.Seq).bind fun r1=>some r1)else some false).bind fun t=>some t)else(if(p.Kind==2)then(some ((((((((p.Q'.Rows.length:Int)==0)&&(!p.Q'.End))&&(p.Q'.s_==0))&&(decide (1<=p.Seq)))&&(decide (p.Seq<=1099511627777)))&&(decide ((u64.wrap (p.Seq-1))<=p.J')))&&(decide (p.J'<=1099511627776))))else(some false)))
def q8(m:cH)(kind:Int):Option Bool:=(if(!(((decide (m.e_<0))||(decide (29<m.e_)))||(m.C'.Kind !=kind)))then((wk m.C').bind fun r3=>some (!r3))else some true).bind fun t1=>if t1 then(some false)else((kN (cH.mk m.Kind m.f_ m.To m.P' m.e_ 0 ⟨[]⟩ m.C' 0) m).bind fun r4=>some r4)
def ui(m:cH)(x1:Bool):Option Bool:=if x1 then(if(m.Kind==4)then(q8 m 2)else(q8 m 1))else(if(m.Kind==5)then(if((m.G_ !=140)&&(m.G_ !=300))then(some false)else((kN (cH.mk m.Kind m.f_ m.To m.P' 0 0 ⟨[]⟩ ⟨0,0,0,0,⟨[],false,0⟩⟩ m.G_) m).bind fun r5=>some r5))else(some false))
def m6(m:cH)(x:Bool):Option Bool:=if x then((kN (⟨m.Kind,m.f_,m.To,m.P',0,0,⟨[]⟩,⟨0,0,0,0,⟨[],false,0⟩⟩,0⟩:cH) m).bind fun r2=>some r2)else(if(m.Kind==3)then(ui m (m.Kind==3))else(ui m (m.Kind==4)))
def q9(m:cH):Option Bool:=if((((((decide (m.f_<0))||(decide (8<m.f_)))||(decide (m.To<0)))||(decide (8<m.To)))||(decide (m.P'<1)))||(decide (12<m.P')))then(some false)else(if(m.Kind==1)then((if(!((decide (m.U'<1))||(decide (8<m.U'))))then((wV m.b_).bind fun r=>some (!r))else some true).bind fun t=>if t then(some false)else((kN (cH.mk m.Kind m.f_ m.To m.P' 0 m.U' m.b_ ⟨0,0,0,0,⟨[],false,0⟩⟩ 0) m).bind fun r1=>some r1))else(if(m.Kind==2)then(m6 m (m.Kind==2))else(if(m.Kind==6)then(m6 m (m.Kind==6))else(m6 m (m.Kind==7)))))
def xO(m:cH):Option Bool:=(q9 m).bind fun r=>(if r then((o9 m).bind fun r1=>some (decide ((r1.length:Int)<=20000)))else some false).bind fun t=>some t
def w5(b:(List Int)):Option av:=(zd (b.length:Int) 0).bind fun mk=>(some (sw mk b)).bind fun cp=>some (⟨⟨0,0⟩,cp⟩:av)
def zI(b:(List Int)):Option (bq×av):=(w5 b).bind fun r=>some ((⟨⟨⟨0,0⟩,[]⟩,b,false⟩:bq),r)
def uJ(x:Int)(c:Int):Option Int:=some (u64.wrap ((u64.wrap (x*2^(min (Int.toNat 8) u64.bits)))+(u64.wrap c)))
def iy(r:av):Option Int:=if false then(some 0)else(some (i64.wrap ((r.own.length:Int)-r.place.at_)))
def ig(n:Int):Nat->Int->Int->av->Option (av×Int)
  |0,_,_,_=>none
  |n1+1,x1,x2,ob=>if(decide (x1<n))then((gw ob.own ob.place.at_).bind fun e=>(uJ x2 e).bind fun r2=>(ig n n1) (i64.wrap (x1+1)) r2 ({ob with place:=({ob.place with at_:=(i64.wrap (ob.place.at_+1))}:rJ)}:av))else(some (ob,x2))
def qA(r:av)(n:Int)(x:Int):Option (av×Int):=if(r.place.why !=0)then(some (r,x))else(if(decide (n<0))then(some (({r with place:=({r.place with why:=2}:rJ)}:av),x))else((iy r).bind fun r1=>if(decide (r1<n))then(some (({r with place:=({r.place with why:=7}:rJ)}:av),x))else(ig n de 0 x r)))
def df(r:av)(n:Int):Option (Int×av):=(qA r n 0).bind fun r1=>some (r1.2,r1.1)
def dd(r:av):Option (Int×av):=(df r 1).bind fun r1=>some ((u8.wrap r1.1),r1.2)
def bv(r:bq)(H':av):Option (Int×av):=(dd H').bind fun r1=>some ((i64.wrap r1.1),r1.2)
def ii(r:av):Option Int:=if false then(some 1)else(some r.place.why)
def eo(r:bq)(H':av):Option Bool:=if(!r.bad)then((ii H').bind fun r1=>some (r1==0))else(some false)
def rt(out:List Int)(ob:av):Option ((List Int)×av):=some (out,ob)
def jE(r:bq)(n:Int):Nat->(List Int)->Int->av->Option ((List Int)×av)
  |0,_,_,_=>none
  |n1+1,n',x,F'=>if(decide (x<n))then((eo r F').bind fun r1=>if(!r1)then(rt n' F')else((bv r F').bind fun r2=>(hU n' ([r2.1])).bind fun V'=>(jE r n n1) V' (i64.wrap (x+1)) r2.2))else(rt n' F')
def nS(r:bq)(H':av)(n:Int):Option ((List Int)×av):=jE r n de ([]:List Int) 0 H'
def jD(r:bq)(H':av):Option ((List Int)×av):=(bv r H').bind fun r1=>(nS r r1.2 r1.1).bind fun r2=>some (r2.1,r2.2)
def gO(r:bq)(H':av):Option (Bool×bq×av):=(dd H').bind fun r1=>some ((r1.1==1),({r with bad:=(r.bad||(decide (1<r1.1)))}:bq),r1.2)
def mO(r:av):Option (Int×av):=(df r 4).bind fun r1=>some ((u32.wrap r1.1),r1.2)
def jC(r:av):Option (Int×av):=(df r 2).bind fun r1=>some ((u16.wrap r1.1),r1.2)
def pR(t:(List Int)):Option (Int×(List Int)):=if((t.length:Int)==0)then(some ((-1),t))else((gw t (i64.wrap ((t.length:Int)-1))).bind fun e=>(dr t 0 (i64.wrap ((t.length:Int)-1))).bind fun y=>some (e,y))
def kK(M':Int)(b3:Int)(a1:Int)(x1:List Int)(F':bq):Option (Int×Int×bq×(List Int)):=(hU x1 ([M'])).bind fun l3=>some (a1,b3,F',l3)
def nm(n:Int)(M':Int)(b3:Int)(x:List Int)(ob:bq):Option (Int×Int×bq×(List Int)):=if(decide (1<=n))then((pR x).bind fun r1=>kK M' b3 r1.1 r1.2 ({ob with bad:=(ob.bad||(decide (r1.1<0)))}:bq))else(kK M' b3 (-1) x ob)
def dD(r:bq)(H':av)(t:(List Int))(n:Int)(M':Int):Option (Int×Int×bq×(List Int)):=if(n==2)then((pR t).bind fun r2=>nm n M' r2.1 r2.2 ({r with bad:=(r.bad||(decide (r2.1<0)))}:bq))else(nm n M' (-1) t r)
def j4(r:bq)(H':av):Option (List Int):=(iy H').bind fun r1=>(dr r.all (i64.wrap ((r.all.length:Int)-r1)) (r.all.length:Int)).bind fun y=>some y
def tn(out:(List Int))(c:Int):Option (List Int):=(hU out ([c])).bind fun l1=>some l1
def ie(n:Int):Nat->Int->(List Int)->av->Option (av×(List Int))
  |0,_,_,_=>none
  |n1+1,x,x1,ob=>if(decide (x<n))then((gw ob.own ob.place.at_).bind fun e=>(tn x1 e).bind fun r2=>(ie n n1) (i64.wrap (x+1)) r2 ({ob with place:=({ob.place with at_:=(i64.wrap (ob.place.at_+1))}:rJ)}:av))else(some (ob,x1))
def qz(r:av)(n:Int)(out:(List Int)):Option (av×(List Int)):=if(r.place.why !=0)then(some (r,out))else(if(decide (n<0))then(some (({r with place:=({r.place with why:=2}:rJ)}:av),out))else((iy r).bind fun r1=>if(decide (r1<n))then(some (({r with place:=({r.place with why:=7}:rJ)}:av),out))else(ie n de 0 out r)))
def kO(r:av)(n:Int):Option ((List Int)×av):=(qz r n ([]:List Int)).bind fun r1=>some (r1.2,r1.1)
def iz(r:bq)(H':av)(n:Int)(e:Int):Option (bq×av):=if(e !=0)then(some (({r with bad:=true}:bq),H'))else((kO H' n).bind fun r1=>some (r,r1.2))
def xg(b:(List Int)):Option (dx×av):=(w5 b).bind fun r=>some ((⟨⟨⟨0,0⟩,[]⟩,(b.length:Int),false⟩:dx),r)
def eX(r:av):Option (Int×av):=(df r 8).bind fun r1=>some (r1.1,r1.2)
def dz(t:dx)(H':av)(is1:Bool):Option dx:=if t.bad then(some ({t with bad:=true}:dx))else((ii H').bind fun r=>some ({t with bad:=((r==0)&&(!is1))}:dx))
def fZ(t:dx)(H':av):Option Bool:=if(!t.bad)then((ii H').bind fun r=>some (r==0))else(some false)
def lN(t:dx)(H':av):Option (aD×dx×av):=(dd H').bind fun r=>(dz t r.2 (decide ((i64.wrap r.1)<=4))).bind fun r1=>(fZ r1 r.2).bind fun r2=>if(!r2)then(some ((aD.mk (i64.wrap r.1) 0 0 []),r1,r.2))else(if((i64.wrap r.1)==1)then((dd r.2).bind fun r3=>(kj (aD.mk (i64.wrap r.1) (i64.wrap r3.1) 0 [])).bind fun r4=>(dz r1 r3.2 (r4==0)).bind fun r5=>some ((aD.mk (i64.wrap r.1) (i64.wrap r3.1) 0 []),r5,r3.2))else(if((i64.wrap r.1)==2)then((eX r.2).bind fun r6=>(kj (aD.mk (i64.wrap r.1) (i64.wrap r6.1) 0 [])).bind fun r7=>(dz r1 r6.2 (r7==0)).bind fun r8=>some ((aD.mk (i64.wrap r.1) (i64.wrap r6.1) 0 []),r8,r6.2))else(if((i64.wrap r.1)==3)then((dd r.2).bind fun r9=>(dz r1 r9.2 (decide ((i64.wrap r9.1)<=40))).bind fun r10=>(fZ r10 r9.2).bind fun r11=>if r11 then((kO r9.2 (i64.wrap r9.1)).bind fun r12=>(kj (aD.mk (i64.wrap r.1) 0 0 (mF r12.1))).bind fun r13=>(dz r10 r12.2 (r13==0)).bind fun r14=>some ((aD.mk (i64.wrap r.1) 0 0 (mF r12.1)),r14,r12.2))else((kj (aD.mk (i64.wrap r.1) 0 0 [])).bind fun r15=>(dz r10 r9.2 (r15==0)).bind fun r16=>some ((aD.mk (i64.wrap r.1) 0 0 []),r16,r9.2)))else(if((i64.wrap r.1)==4)then((eX r.2).bind fun r17=>(eX r17.2).bind fun r18=>(kj (aD.mk (i64.wrap r.1) (i64.wrap r17.1) r18.1 [])).bind fun r19=>(dz r1 r18.2 (r19==0)).bind fun r20=>some ((aD.mk (i64.wrap r.1) (i64.wrap r17.1) r18.1 []),r20,r18.2))else((kj (aD.mk (i64.wrap r.1) 0 0 [])).bind fun r21=>(dz r1 r.2 (r21==0)).bind fun r22=>some ((aD.mk (i64.wrap r.1) 0 0 []),r22,r.2))))))
def np(t:dx)(H':av)(p:aD):Option (aD×Int×Int):=if t.bad then(some ((⟨0,0,0,[]⟩:aD),0,160))else((ii H').bind fun r=>if(r !=0)then((ii H').bind fun r1=>some ((⟨0,0,0,[]⟩:aD),0,r1))else((iy H').bind fun r2=>some (p,(i64.wrap (t.all-r2)),0)))
def s9(b:(List Int)):Option (aD×Int×Int):=(xg b).bind fun r=>(lN r.1 r.2).bind fun r1=>(np r1.2.1 r1.2.2 r1.1).bind fun r2=>some (r2.1,r2.2.1,r2.2.2)
def kQ(r:bq)(H':av):Option (aD×bq×av):=(j4 r H').bind fun r1=>(s9 r1).bind fun r2=>(iz r H' r2.2.1 r2.2.2).bind fun r3=>some (r2.1,r3.1,r3.2)
def tQ(tag:Int):Option Int:=if((tag==1)||(tag==2))then(some 0)else(if(decide (12<=tag))then(some 2)else(some 1))
def oz(r:bq)(H':av)(t:(List Int))(M':Int):Option (bw×bq×av×(List Int)×Int):=(bv r H').bind fun r1=>if(r1.1==2)then((bv r r1.2).bind fun r2=>(tQ r1.1).bind fun r3=>(dD r r2.2 t r3 M').bind fun r4=>some ((bw.mk r1.1 r4.1 r4.2.1 r2.1 ⟨0,0,0,[]⟩),r4.2.2.1,r2.2,r4.2.2.2,(i64.wrap (M'+1))))else(if(r1.1==1)then((kQ r r1.2).bind fun r5=>(tQ r1.1).bind fun r6=>(dD r5.2.1 r5.2.2 t r6 M').bind fun r7=>some ((bw.mk r1.1 r7.1 r7.2.1 0 r5.1),r7.2.2.1,r5.2.2,r7.2.2.2,(i64.wrap (M'+1))))else((tQ r1.1).bind fun r8=>(dD r r1.2 t r8 M').bind fun r9=>some ((bw.mk r1.1 r9.1 r9.2.1 0 ⟨0,0,0,[]⟩),r9.2.2.1,r1.2,r9.2.2.2,(i64.wrap (M'+1)))))
def mA(out:List bw)(x:Int)(x1:List Int)(ob:bq)(F':av):Option ((List bw)×bq×av×(List Int)×Int):=some (out,ob,F',x1,x)
def iC(n:Int):Nat->(List bw)->Int->Int->(List Int)->bq->av->Option ((List bw)×bq×av×(List Int)×Int)
  |0,_,_,_,_,_,_=>none
  |n1+1,n',x2,x3,x4,j_,n_=>if(decide (x2<n))then((eo j_ n_).bind fun r1=>if(!r1)then(mA n' x3 x4 j_ n_)else((oz j_ n_ x4 x3).bind fun r2=>(hU n' ([r2.1])).bind fun V'=>(iC n n1) V' (i64.wrap (x2+1)) r2.2.2.2.2 r2.2.2.2.1 r2.2.1 r2.2.2.1))else(mA n' x3 x4 j_ n_)
def lh(r:bq)(H':av)(n:Int)(t:(List Int))(M':Int):Option ((List bw)×bq×av×(List Int)×Int):=iC n de ([]:List bw) 0 M' t r H'
def iA(r:bq)(H':av):Option (bQ×bq×av):=(jC H').bind fun r1=>(lh r r1.2 (i64.wrap r1.1) ([]:List Int) 0).bind fun r2=>some ((⟨r2.1⟩:bQ),r2.2.1,r2.2.2.1)
def sd(r:bq)(H':av):Option (f9×bq×av):=(bv r H').bind fun r1=>(iA r r1.2).bind fun r2=>some ((⟨r1.1,r2.1⟩:f9),r2.2.1,r2.2.2)
def sb(r:bq)(H':av):Option (jJ×bq×av):=(bv r H').bind fun r1=>(gO r r1.2).bind fun r2=>some ((⟨r1.1,r2.1⟩:jJ),r2.2.1,r2.2.2)
def nA(out:List f9)(ob:bq)(F':av):Option ((List f9)×bq×av):=some (out,ob,F')
def kx(n:Int):Nat->(List f9)->Int->bq->av->Option ((List f9)×bq×av)
  |0,_,_,_,_=>none
  |n1+1,n',x,j_,n_=>if(decide (x<n))then((eo j_ n_).bind fun r1=>if(!r1)then(nA n' j_ n_)else((sd j_ n_).bind fun r2=>(hU n' ([r2.1])).bind fun V'=>(kx n n1) V' (i64.wrap (x+1)) r2.2.1 r2.2.2))else(nA n' j_ n_)
def mB(r:bq)(H':av)(n:Int):Option ((List f9)×bq×av):=kx n de ([]:List f9) 0 r H'
def nh(out:List bQ)(ob:bq)(F':av):Option ((List bQ)×bq×av):=some (out,ob,F')
def j6(n:Int):Nat->(List bQ)->Int->bq->av->Option ((List bQ)×bq×av)
  |0,_,_,_,_=>none
  |n1+1,n',x,j_,n_=>if(decide (x<n))then((eo j_ n_).bind fun r1=>if(!r1)then(nh n' j_ n_)else((iA j_ n_).bind fun r2=>(hU n' ([r2.1])).bind fun V'=>(j6 n n1) V' (i64.wrap (x+1)) r2.2.1 r2.2.2))else(nh n' j_ n_)
def lM(r:bq)(H':av)(n:Int):Option ((List bQ)×bq×av):=j6 n de ([]:List bQ) 0 r H'
def nz(out:List jJ)(ob:bq)(F':av):Option ((List jJ)×bq×av):=some (out,ob,F')
def kw(n:Int):Nat->(List jJ)->Int->bq->av->Option ((List jJ)×bq×av)
  |0,_,_,_,_=>none
  |n1+1,n',x,j_,n_=>if(decide (x<n))then((eo j_ n_).bind fun r1=>if(!r1)then(nz n' j_ n_)else((sb j_ n_).bind fun r2=>(hU n' ([r2.1])).bind fun V'=>(kw n n1) V' (i64.wrap (x+1)) r2.2.1 r2.2.2))else(nz n' j_ n_)
def my(r:bq)(H':av)(n:Int):Option ((List jJ)×bq×av):=kw n de ([]:List jJ) 0 r H'
def lB(r:bq)(t:(List Int))(M':Int)(r1:Int×av)(x1:Bool):Option (al×bq×av×(List Int)):=if x1 then((jD r r1.2).bind fun r10=>(bv r r10.2).bind fun r11=>(mB r r11.2 r11.1).bind fun r12=>(dD r12.2.1 r12.2.2 t 1 M').bind fun r13=>some ((al.mk r1.1 r13.1 r13.2.1 0 [] false ⟨[]⟩ r10.1 r12.1 [] [] 0),r13.2.2.1,r12.2.2,r13.2.2.2))else(if(r1.1==5)then((bv r r1.2).bind fun r14=>(lM r r14.2 r14.1).bind fun r15=>(dD r15.2.1 r15.2.2 t 1 M').bind fun r16=>some ((al.mk r1.1 r16.1 r16.2.1 0 [] false ⟨[]⟩ [] [] r15.1 [] 0),r16.2.2.1,r15.2.2,r16.2.2.2))else(if(r1.1==8)then((bv r r1.2).bind fun r17=>(my r r17.2 r17.1).bind fun r18=>(mO r18.2.2).bind fun r19=>(dD r18.2.1 r19.2 t 1 M').bind fun r20=>some ((al.mk r1.1 r20.1 r20.2.1 0 [] false ⟨[]⟩ [] [] [] r18.1 (i64.wrap ((i64.wrap r19.1)-1))),r20.2.2.1,r19.2,r20.2.2.2))else(if(r1.1==7)then((dD r r1.2 t 2 M').bind fun r21=>some ((al.mk r1.1 r21.1 r21.2.1 0 [] false ⟨[]⟩ [] [] [] [] 0),r21.2.2.1,r1.2,r21.2.2.2))else((dD r r1.2 t 1 M').bind fun r22=>some ((al.mk r1.1 r22.1 r22.2.1 0 [] false ⟨[]⟩ [] [] [] [] 0),r22.2.2.1,r1.2,r22.2.2.2)))))
def nQ(r:bq)(t:(List Int))(M':Int)(r1:Int×av)(x:Bool):Option (al×bq×av×(List Int)):=if x then((bv r r1.2).bind fun r2=>(jD r r2.2).bind fun r3=>(dD r r3.2 t 0 M').bind fun r4=>some ((al.mk r1.1 r4.1 r4.2.1 r2.1 r3.1 false ⟨[]⟩ [] [] [] [] 0),r4.2.2.1,r3.2,r4.2.2.2))else(if(r1.1==2)then((gO r r1.2).bind fun r5=>(iA r5.2.1 r5.2.2).bind fun r6=>(dD r6.2.1 r6.2.2 t 2 M').bind fun r7=>some ((al.mk r1.1 r7.1 r7.2.1 0 [] r5.1 r6.1 [] [] [] [] 0),r7.2.2.1,r6.2.2,r7.2.2.2))else(if(r1.1==3)then((iA r r1.2).bind fun r8=>(dD r8.2.1 r8.2.2 t 1 M').bind fun r9=>some ((al.mk r1.1 r9.1 r9.2.1 0 [] false r8.1 [] [] [] [] 0),r9.2.2.1,r8.2.2,r9.2.2.2))else(if(r1.1==4)then(lB r t M' r1 (r1.1==4))else(if(r1.1==10)then(lB r t M' r1 (r1.1==10))else(lB r t M' r1 (r1.1==11))))))
def uu(r:bq)(H':av)(t:(List Int))(M':Int):Option (al×bq×av×(List Int)):=(bv r H').bind fun r1=>if(r1.1==1)then(nQ r t M' r1 (r1.1==1))else(nQ r t M' r1 (r1.1==9))
def oy(r:bq)(H':av)(t:(List Int))(M':Int):Option (al×bq×av×(List Int)×Int):=(uu r H' t M').bind fun r1=>some (r1.1,r1.2.1,r1.2.2.1,r1.2.2.2,(i64.wrap (M'+1)))
def mz(out:List al)(x:Int)(x1:List Int)(ob:bq)(F':av):Option ((List al)×bq×av×(List Int)×Int):=some (out,ob,F',x1,x)
def iB(n:Int):Nat->(List al)->Int->Int->(List Int)->bq->av->Option ((List al)×bq×av×(List Int)×Int)
  |0,_,_,_,_,_,_=>none
  |n1+1,n',x2,x3,x4,j_,n_=>if(decide (x2<n))then((eo j_ n_).bind fun r1=>if(!r1)then(mz n' x3 x4 j_ n_)else((oy j_ n_ x4 x3).bind fun r2=>(hU n' ([r2.1])).bind fun V'=>(iB n n1) V' (i64.wrap (x2+1)) r2.2.2.2.2 r2.2.2.2.1 r2.2.1 r2.2.2.1))else(mz n' x3 x4 j_ n_)
def ol(r:bq)(H':av)(n:Int)(t:(List Int))(M':Int):Option ((List al)×bq×av×(List Int)×Int):=iB n de ([]:List al) 0 M' t r H'
def qN(r:bq)(H':av):Option (dl×bq×av):=(bv r H').bind fun r1=>(bv r r1.2).bind fun r2=>(jD r r2.2).bind fun r3=>(bv r r3.2).bind fun r4=>(ol r r4.2 r4.1 ([]:List Int) 0).bind fun r5=>some ((dl.mk r5.1 r1.1 r2.1 r3.1),r5.2.1,r5.2.2.1)
def nf(out:List dl)(ob:bq)(F':av):Option ((List dl)×bq×av):=some (out,ob,F')
def j5(n:Int):Nat->(List dl)->Int->bq->av->Option ((List dl)×bq×av)
  |0,_,_,_,_=>none
  |n1+1,n',x,j_,n_=>if(decide (x<n))then((eo j_ n_).bind fun r1=>if(!r1)then(nf n' j_ n_)else((qN j_ n_).bind fun r2=>(hU n' ([r2.1])).bind fun V'=>(j5 n n1) V' (i64.wrap (x+1)) r2.2.1 r2.2.2))else(nf n' j_ n_)
def oV(r:bq)(H':av)(n:Int):Option ((List dl)×bq×av):=j5 n de ([]:List dl) 0 r H'
def qM(r:bq)(H':av):Option (iG×bq×av):=(bv r H').bind fun r1=>(oV r r1.2 r1.1).bind fun r2=>some ((⟨r2.1⟩:iG),r2.2.1,r2.2.2)
def kR(r:bq)(H':av):Option Bool:=(eo r H').bind fun r1=>if r1 then((iy H').bind fun r2=>some (r2==0))else(some false)
def uP(b:(List Int)):Option ((List Int)×Int):=if(decide ((i64.wrap ((b.length:Int)-4))<0))then(some ([],7))else((dr b 0 (i64.wrap ((b.length:Int)-4))).bind fun y=>(ph y).bind fun r=>(pn r).bind fun r1=>(pg r1 b).bind fun r2=>if(!r2)then(some ([],130))else(some (r,0)))
def oD(t:dx)(H':av)(p:(List (List aD))):Option ((List (List aD))×Int×Int):=if t.bad then(some ([],0,160))else((ii H').bind fun r=>if(r !=0)then((ii H').bind fun r1=>some ([],0,r1))else((iy H').bind fun r2=>some (p,(i64.wrap (t.all-r2)),0)))
def jM(n:Int):Nat->(List aD)->Int->dx->av->Option ((List aD)×dx×av)
  |0,_,_,_,_=>none
  |n1+1,out,i,ob,F'=>if(decide (i<n))then((fZ ob F').bind fun r=>if r then((lN ob F').bind fun r1=>(hU out ([r1.1])).bind fun n'=>(jM n n1) n' (i64.wrap (i+1)) r1.2.1 r1.2.2)else(some (out,ob,F')))else(some (out,ob,F'))
def il(t:dx)(H':av)(n:Int):Option ((List aD)×dx×av):=jM n de ([]:List aD) 0 t H'
def s8(t:dx)(H':av):Option ((List aD)×dx×av):=(dd H').bind fun r=>(dz t r.2 (decide ((i64.wrap r.1)<=16))).bind fun r1=>(il r1 r.2 (i64.wrap r.1)).bind fun r2=>some (r2.1,r2.2.1,r2.2.2)
def kC(n:Int):Nat->(List (List aD))->Int->dx->av->Option ((List (List aD))×dx×av)
  |0,_,_,_,_=>none
  |n1+1,out,i,ob,F'=>if(decide (i<n))then((fZ ob F').bind fun r=>if r then((s8 ob F').bind fun r1=>(hU out ([r1.1])).bind fun n'=>(kC n n1) n' (i64.wrap (i+1)) r1.2.1 r1.2.2)else(some (out,ob,F')))else(some (out,ob,F'))
def jb(t:dx)(H':av)(n:Int):Option ((List (List aD))×dx×av):=kC n de ([]:List (List aD)) 0 t H'
def sq(t:dx)(H':av):Option ((List (List aD))×dx×av):=(jC H').bind fun r=>(dz t r.2 (decide ((i64.wrap r.1)<=400))).bind fun r1=>(jb r1 r.2 (i64.wrap r.1)).bind fun r2=>some (r2.1,r2.2.1,r2.2.2)
def o3(b:(List Int)):Option ((List (List aD))×Int×Int):=(xg b).bind fun r=>(sq r.1 r.2).bind fun r1=>(oD r1.2.1 r1.2.2 r1.1).bind fun r2=>some (r2.1,r2.2.1,r2.2.2)
def mw(p:di)(ob:bq)(F':av):Option (di×bq×av):=some (p,ob,F')
def mh(r:bq)(H':av)(kind:Int):Option (di×bq×av):=(mO H').bind fun r1=>(eX r1.2).bind fun r2=>if(kind==2)then((eX r2.2).bind fun r3=>some ((di.mk kind r1.1 r2.1 r3.1 ⟨[],false,0⟩),r,r3.2))else((gO r r2.2).bind fun r4=>if r4.1 then((eX r4.2.2).bind fun r5=>some ((⟨kind,r1.1,r2.1,0,⟨[],r4.1,r5.1⟩⟩:di),r4.2.1,r5.2))else((eo r4.2.1 r4.2.2).bind fun r6=>if r6 then((j4 r4.2.1 r4.2.2).bind fun r7=>(o3 r7).bind fun r8=>(iz r4.2.1 r4.2.2 r8.2.1 r8.2.2).bind fun r9=>mw (⟨kind,r1.1,r2.1,0,⟨r8.1,r4.1,0⟩⟩:di) r9.1 r9.2)else(mw (⟨kind,r1.1,r2.1,0,⟨[],r4.1,0⟩⟩:di) r4.2.1 r4.2.2)))
def nR(r:bq)(H':av):Option (cH×bq×av):=(bv r H').bind fun r1=>(bv r r1.2).bind fun r2=>(bv r r2.2).bind fun r3=>(bv r r3.2).bind fun r4=>if(r1.1==1)then((bv r r4.2).bind fun r5=>(qM r r5.2).bind fun r6=>some ((cH.mk r1.1 r2.1 r3.1 r4.1 0 r5.1 r6.1 ⟨0,0,0,0,⟨[],false,0⟩⟩ 0),r6.2.1,r6.2.2))else(if(r1.1==3)then((bv r r4.2).bind fun r7=>(mh r r7.2 1).bind fun r8=>some ((cH.mk r1.1 r2.1 r3.1 r4.1 r7.1 0 ⟨[]⟩ r8.1 0),r8.2.1,r8.2.2))else(if(r1.1==4)then((bv r r4.2).bind fun r9=>(mh r r9.2 2).bind fun r10=>some ((cH.mk r1.1 r2.1 r3.1 r4.1 r9.1 0 ⟨[]⟩ r10.1 0),r10.2.1,r10.2.2))else(if(r1.1==5)then((gO r r4.2).bind fun r11=>if r11.1 then(some ((cH.mk r1.1 r2.1 r3.1 r4.1 0 0 ⟨[]⟩ ⟨0,0,0,0,⟨[],false,0⟩⟩ 300),r11.2.1,r11.2.2))else(some ((cH.mk r1.1 r2.1 r3.1 r4.1 0 0 ⟨[]⟩ ⟨0,0,0,0,⟨[],false,0⟩⟩ 140),r11.2.1,r11.2.2)))else(some ((⟨r1.1,r2.1,r3.1,r4.1,0,0,⟨[]⟩,⟨0,0,0,0,⟨[],false,0⟩⟩,0⟩:cH),r,r4.2)))))
def mC(b:(List Int)):Option (cH×Int):=(uP b).bind fun r=>if(r.2 !=0)then(some ((⟨0,0,0,0,0,0,⟨[]⟩,⟨0,0,0,0,⟨[],false,0⟩⟩,0⟩:cH),r.2))else((zI r.1).bind fun r1=>(nR r1.1 r1.2).bind fun r2=>(kR r2.2.1 r2.2.2).bind fun r3=>(if(!(!r3))then((pc r2.1).bind fun r4=>some (!r4))else some true).bind fun t=>if(t||(decide (20000<(b.length:Int))))then(some ((⟨0,0,0,0,0,0,⟨[]⟩,⟨0,0,0,0,⟨[],false,0⟩⟩,0⟩:cH),331))else(some (r2.1,0)))
def sW(b:(List Int)):List Int->Nat->Option Bool
 |[],i=>some true
 |e::tl,i=>(gw b (i:Int)).bind fun e1=>if(e !=e1)then(some false)else((sW b tl) (i+1))
def zx(a1:(List Int))(b:(List Int)):Option Bool:=if((a1.length:Int) !=(b.length:Int))then(some false)else(sW b a1 0)
def xH(b:(List Int)):Option Bool:=(if(decide (4<=(b.length:Int)))then((dr b 0 (i64.wrap ((b.length:Int)-4))).bind fun y=>(jZ y).bind fun r=>(zx r b).bind fun r1=>some r1)else some false).bind fun t=>some t
def iZ(c:bd)(width:Int):Nat->Int->Int->Option (Int×bd)
  |0,_,_=>none
  |n1+1,n,i1=>if(decide (i1<width))then((gw c.Bytes (i64.wrap (c.At+i1))).bind fun e=>(iZ c width n1) (u64.wrap ((u64.wrap (n*256))+(u64.wrap e))) (i64.wrap (i1+1)))else(some (n,({c with At:=(i64.wrap (c.At+width))}:bd)))
def bW(c:bd)(width:Int):Option (Int×bd):=if(c.B_||(decide ((c.Bytes.length:Int)<(i64.wrap (c.At+width)))))then(some (0,({c with B_:=true}:bd)))else(iZ c width de 0 0)
def br(c:bd):Option (Int×bd):=(bW c 1).bind fun r=>some ((i64.wrap r.1),r.2)
def gb(r:Int×bd):Nat->(List Int)->Int->bd->Option ((List Int)×bd)
  |0,_,_,_=>none
  |n+1,out,i1,ob=>if((decide (i1<r.1))&&(!ob.B_))then((br ob).bind fun r1=>(hU out ([r1.1])).bind fun n'=>(gb r n) n' (i64.wrap (i1+1)) r1.2)else(some (out,ob))
def iN(c:bd):Option ((List Int)×bd):=(br c).bind fun r=>gb r de ([]:List Int) 0 r.2
def lu(r:Int×bd)(ob:bd):Option (Bool×bd):=some ((r.1==1),ob)
def fV(c:bd):Option (Bool×bd):=(bW c 1).bind fun r=>if(decide (1<r.1))then(lu r ({r.2 with B_:=true}:bd))else(lu r r.2)
def q7(tops:(List Int))(n:Int)(M':Int)(b:Int)(a2:Int):Option ((List Int)×Int×Int×Bool):=(dr tops 0 (i64.wrap ((tops.length:Int)-n))).bind fun y=>(hU ([]:List Int) y).bind fun l1=>(hU l1 ([M'])).bind fun x=>some (x,a2,b,true)
def oN(tops:(List Int))(n:Int)(M':Int)(a1:Int)(b:Int):Option ((List Int)×Int×Int×Bool):=if(n==1)then((gw tops (i64.wrap ((tops.length:Int)-1))).bind fun e=>q7 tops n M' b e)else(q7 tops n M' b a1)
def o8(tops:(List Int))(n:Int)(M':Int):Option ((List Int)×Int×Int×Bool):=if(decide ((tops.length:Int)<n))then(some (([]:List Int),(-1),(-1),false))else(if(n==2)then((gw tops (i64.wrap ((tops.length:Int)-2))).bind fun e1=>(gw tops (i64.wrap ((tops.length:Int)-1))).bind fun e2=>oN tops n M' e1 e2)else(oN tops n M' (-1) (-1)))
def sV:List Int->Int->Option Int
 |[],n=>some n
 |e::tl,n=>(sV tl) (u64.wrap ((u64.wrap (n*2^(min (Int.toNat 8) u64.bits)))+(u64.wrap e)))
def lT(b:(List Int)):Option Int:=(dr b 0 8).bind fun y=>sV y 0
def lU(b:(List Int)):Option (aD×Int×Int):=if(decide ((b.length:Int)<1))then(some ((⟨0,0,0,[]⟩:aD),0,7))else((gw b 0).bind fun e=>if(decide (4<e))then(some ((⟨0,0,0,[]⟩:aD),0,160))else((gw ([1,2,9,2,17]) e).bind fun e1=>if(decide ((b.length:Int)<e1))then(some ((⟨0,0,0,[]⟩:aD),0,7))else(if(((i64.wrap e))==1)then((gw b 1).bind fun e2=>(ip (aD.mk (i64.wrap e) (i64.wrap e2) 0 [])).bind fun r=>if(!r)then(some ((⟨0,0,0,[]⟩:aD),0,160))else(some ((aD.mk (i64.wrap e) (i64.wrap e2) 0 []),e1,0)))else(if(((i64.wrap e))==2)then((dr b 1 (b.length:Int)).bind fun y=>(lT y).bind fun r1=>(ip (aD.mk (i64.wrap e) (i64.wrap r1) 0 [])).bind fun r2=>if(!r2)then(some ((⟨0,0,0,[]⟩:aD),0,160))else(some ((aD.mk (i64.wrap e) (i64.wrap r1) 0 []),e1,0)))else(if(((i64.wrap e))==4)then((dr b 1 (b.length:Int)).bind fun y1=>(lT y1).bind fun r3=>(dr b 9 (b.length:Int)).bind fun y2=>(lT y2).bind fun r4=>(ip (aD.mk (i64.wrap e) (i64.wrap r3) r4 [])).bind fun r5=>if(!r5)then(some ((⟨0,0,0,[]⟩:aD),0,160))else(some ((aD.mk (i64.wrap e) (i64.wrap r3) r4 []),e1,0)))else(if(((i64.wrap e))==3)then((gw b 1).bind fun e3=>if(decide (40<e3))then(some ((⟨0,0,0,[]⟩:aD),0,160))else(if(decide ((b.length:Int)<(i64.wrap (e1+(i64.wrap e3)))))then(some ((⟨0,0,0,[]⟩:aD),0,7))else((dr b 2 (i64.wrap (e1+(i64.wrap e3)))).bind fun y3=>(ip (aD.mk (i64.wrap e) 0 0 (mF y3))).bind fun r6=>if(!r6)then(some ((⟨0,0,0,[]⟩:aD),0,160))else(some ((aD.mk (i64.wrap e) 0 0 (mF y3)),(i64.wrap (e1+(i64.wrap e3))),0)))))else((ip (⟨(i64.wrap e),0,0,[]⟩:aD)).bind fun r7=>if(!r7)then(some ((⟨0,0,0,[]⟩:aD),0,160))else(some ((⟨(i64.wrap e),0,0,[]⟩:aD),e1,0)))))))))
def iO(nx:(List Int)->Int->bQ->bQ->bd->Option (bQ×bd))(tops:(List Int))(i1:Int)(x:bQ)(out:bQ)(x2:bw)(j_:bd):Option (bQ×bd):=(vy x2.Tag).bind fun r2=>if(decide (r2<0))then(some (out,({j_ with B_:=true}:bd)))else((o8 tops r2 i1).bind fun r3=>(hU out.i' ([(bw.mk x2.Tag r3.2.1 r3.2.2.1 x2.o_ x2.Value)])).bind fun l1=>nx r3.1 (i64.wrap (i1+1)) x ({out with i':=l1}:bQ) ({j_ with B_:=(j_.B_||(!r3.2.2.2))}:bd))
def lv(nx:(List Int)->Int->bQ->bQ->bd->Option (bQ×bd))(tops:(List Int))(i1:Int)(x:bQ)(out:bQ)(x1:bw)(F':bd):Option (bQ×bd):=if((x1.Tag==1)&&(!F'.B_))then((dr F'.Bytes F'.At (F'.Bytes.length:Int)).bind fun y=>(lU y).bind fun r4=>iO nx tops i1 x out (bw.mk x1.Tag x1.L x1.R x1.o_ r4.1) ({F' with B_:=(r4.2.2 !=0),At:=(i64.wrap (F'.At+r4.2.1))}:bd))else(iO nx tops i1 x out x1 F')
def dp(r:Int×bd):Nat->(List Int)->Int->bQ->bQ->bd->Option (bQ×bd)
  |0,_,_,_,_,_=>none
  |n+1,tops,i1,x,out,ob=>if((decide (i1<(i64.wrap r.1)))&&(!ob.B_))then((br ob).bind fun r1=>if(r1.1==2)then((br r1.2).bind fun r5=>lv (dp r n) tops i1 x out (bw.mk r1.1 0 0 r5.1 ⟨0,0,0,[]⟩) r5.2)else(lv (dp r n) tops i1 x out (⟨r1.1,0,0,0,⟨0,0,0,[]⟩⟩:bw) r1.2))else(some (out,ob))
def gL(c:bd):Option (bQ×bd):=(bW c 2).bind fun r=>dp r de ([]) 0 (⟨[]⟩:bQ) (⟨([]:List bw)⟩:bQ) r.2
def nk(r:Int×bd):Nat->(List bQ)->Int->bd->Option ((List bQ)×bd)
  |0,_,_,_=>none
  |n+1,out,i1,ob=>if((decide (i1<r.1))&&(!ob.B_))then((gL ob).bind fun r1=>(hU out ([r1.1])).bind fun n'=>(nk r n) n' (i64.wrap (i1+1)) r1.2)else(some (out,ob))
def pu(c:bd):Option ((List bQ)×bd):=(br c).bind fun r=>nk r de ([]:List bQ) 0 r.2
def gZ(r6:Int×bd):Nat->Int->al->bd->Option (al×bd)
  |0,_,_,_=>none
  |n2+1,i7,n1,ob=>if((decide (i7<r6.1))&&(!ob.B_))then((br ob).bind fun r7=>(gL r7.2).bind fun r8=>(hU n1.u' ([(⟨r7.1,r8.1⟩:f9)])).bind fun l2=>(gZ r6 n2) (i64.wrap (i7+1)) ({n1 with u':=l2}:al) r8.2)else(some (n1,ob))
def gY(r10:Int×bd):Nat->Int->al->bd->Option (al×bd)
  |0,_,_,_=>none
  |n4+1,i11,n3,F'=>if((decide (i11<r10.1))&&(!F'.B_))then((br F').bind fun r11=>(fV r11.2).bind fun r12=>(hU n3.B' ([(⟨r11.1,r12.1⟩:jJ)])).bind fun l6=>(gY r10 n4) (i64.wrap (i11+1)) ({n3 with B':=l6}:al) r12.2)else((bW F' 4).bind fun r13=>some (({({({n3 with J':=(i64.wrap ((i64.wrap r13.1)-1))}:al)with u':=n3.u'}:al)with B':=n3.B'}:al),r13.2))
def jU(c:bd)(n:al)(x1:Bool):Option (al×bd):=if x1 then((iN c).bind fun r5=>(br r5.2).bind fun r6=>gZ r6 de 0 ({({({n with v':=r5.1}:al)with u':=([]:List f9)}:al)with B':=([]:List jJ)}:al) r6.2)else(if(n.Op==5)then((pu c).bind fun r9=>some (({({({n with D':=r9.1}:al)with u':=([]:List f9)}:al)with B':=([]:List jJ)}:al),r9.2))else(if(n.Op==8)then((br c).bind fun r10=>gY r10 de 0 ({({n with u':=([]:List f9)}:al)with B':=([]:List jJ)}:al) r10.2)else(some (({({n with u':=([]:List f9)}:al)with B':=([]:List jJ)}:al),c))))
def mt(c:bd)(n:al)(x:Bool):Option (al×bd):=if x then((br c).bind fun r=>(iN r.2).bind fun r1=>some (({({({({n with Table:=r.1}:al)with A':=r1.1}:al)with u':=([]:List f9)}:al)with B':=([]:List jJ)}:al),r1.2))else(if(n.Op==2)then((fV c).bind fun r2=>(gL r2.2).bind fun r3=>some (({({({({n with Left:=r2.1}:al)with c_:=r3.1}:al)with u':=([]:List f9)}:al)with B':=([]:List jJ)}:al),r3.2))else(if(n.Op==3)then((gL c).bind fun r4=>some (({({({n with c_:=r4.1}:al)with u':=([]:List f9)}:al)with B':=([]:List jJ)}:al),r4.2))else(if(n.Op==4)then(jU c n (n.Op==4))else(if(n.Op==10)then(jU c n (n.Op==10))else(jU c n (n.Op==11))))))
def io(c:bd)(n:al):Option (al×bd):=if(n.Op==1)then(mt c n (n.Op==1))else(mt c n (n.Op==9))
def fO(r3:Int×bd):Nat->(List Int)->Int->dl->dl->bd->Option (dl×bd)
  |0,_,_,_,_,_=>none
  |n+1,tops,i4,x,f,ob=>if((decide (i4<r3.1))&&(!ob.B_))then((br ob).bind fun r4=>(io r4.2 (⟨r4.1,0,0,0,[],false,⟨[]⟩,[],[],[],[],0⟩:al)).bind fun r5=>(vw r5.1.Op).bind fun r6=>if(decide (r6<0))then(some (f,({r5.2 with B_:=true}:bd)))else((o8 tops r6 i4).bind fun r7=>(hU f.i' ([(al.mk r5.1.Op r7.2.1 r7.2.2.1 r5.1.Table r5.1.A' r5.1.Left r5.1.c_ r5.1.v' r5.1.u' r5.1.D' r5.1.B' r5.1.J')])).bind fun l1=>(fO r3 n) r7.1 (i64.wrap (i4+1)) x ({f with i':=l1}:dl) ({r5.2 with B_:=(r5.2.B_||(!r7.2.2.2))}:bd)))else(some (f,ob))
def uj(c:bd):Option (dl×bd):=(br c).bind fun r=>(br r.2).bind fun r1=>(iN r1.2).bind fun r2=>(br r2.2).bind fun r3=>fO r3 de ([]) 0 (⟨[],0,0,[]⟩:dl) (⟨([]:List al),r.1,r1.1,r2.1⟩:dl) r3.2
def mM(b:(List Int))(e:Int):Nat->(List aD)->Int->Int->Option ((List aD)×Int×Int)
  |0,_,_,_=>none
  |n+1,out,M',x=>if(decide (x<e))then((dr b M' (b.length:Int)).bind fun y=>(lU y).bind fun r=>if(r.2.2 !=0)then(some ([],0,r.2.2))else((hU out ([r.1])).bind fun n'=>(mM b e n) n' (i64.wrap (M'+r.2.1)) (u8.wrap (x+1))))else(some (out,M',0))
def vf(b:(List Int)):Option ((List aD)×Int×Int):=if(decide ((b.length:Int)<1))then(some ([],0,7))else((gw b 0).bind fun e=>if(decide (16<e))then(some ([],0,160))else(mM b e de ([]:List aD) 1 0))
def lK(b:(List Int))(e:Int)(e1:Int):Nat->(List (List aD))->Int->Int->Option ((List (List aD))×Int×Int)
  |0,_,_,_=>none
  |n+1,out,M',x=>if(decide (x<(i64.wrap ((i64.wrap ((i64.wrap e)*256))+(i64.wrap e1)))))then((dr b M' (b.length:Int)).bind fun y=>(vf y).bind fun r=>if(r.2.2 !=0)then(some ([],0,r.2.2))else((hU out ([r.1])).bind fun n'=>(lK b e e1 n) n' (i64.wrap (M'+r.2.1)) (i64.wrap (x+1))))else(some (out,M',0))
def rk(b:(List Int)):Option ((List (List aD))×Int×Int):=if(decide ((b.length:Int)<2))then(some ([],0,7))else((gw b 0).bind fun e=>(gw b 1).bind fun e1=>if(decide (400<(i64.wrap ((i64.wrap ((i64.wrap e)*256))+(i64.wrap e1)))))then(some ([],0,160))else(lK b e e1 de ([]:List (List aD)) 2 0))
def mr(p:di)(ob:bd):Option (di×bd):=some (p,ob)
def mg(c:bd)(kind:Int):Option (di×bd):=(bW c 4).bind fun r=>(bW r.2 8).bind fun r1=>if(kind==2)then((bW r1.2 8).bind fun r2=>some ((di.mk kind (u32.wrap r.1) r1.1 r2.1 ⟨[],false,0⟩),r2.2))else((fV r1.2).bind fun r3=>if r3.1 then((bW r3.2 8).bind fun r4=>some ((⟨kind,(u32.wrap r.1),r1.1,0,⟨[],r3.1,r4.1⟩⟩:di),r4.2))else(if(!r3.2.B_)then((dr r3.2.Bytes r3.2.At (r3.2.Bytes.length:Int)).bind fun y=>(rk y).bind fun r5=>mr (⟨kind,(u32.wrap r.1),r1.1,0,⟨r5.1,r3.1,0⟩⟩:di) ({r3.2 with B_:=(r5.2.2 !=0),At:=(i64.wrap (r3.2.At+r5.2.1))}:bd))else(mr (⟨kind,(u32.wrap r.1),r1.1,0,⟨[],r3.1,0⟩⟩:di) r3.2)))
def lH(r5:Int×bd):Nat->Int->cH->bd->Option (cH×bd)
  |0,_,_,_=>none
  |n+1,i6,m,ob=>if((decide (i6<r5.1))&&(!ob.B_))then((uj ob).bind fun r6=>(hU m.b_.L' ([r6.1])).bind fun l1=>(lH r5 n) (i64.wrap (i6+1)) ({m with b_:=(⟨l1⟩:iG)}:cH) r6.2)else(some (m,ob))
def lr(c:bd):Option (cH×bd):=(br c).bind fun r=>(br r.2).bind fun r1=>(br r1.2).bind fun r2=>(br r2.2).bind fun r3=>if(r.1==1)then((br r3.2).bind fun r4=>(br r4.2).bind fun r5=>lH r5 de 0 (⟨r.1,r1.1,r2.1,r3.1,0,r4.1,⟨([]:List dl)⟩,⟨0,0,0,0,⟨[],false,0⟩⟩,0⟩:cH) r5.2)else(if(r.1==3)then((br r3.2).bind fun r7=>(mg r7.2 1).bind fun r8=>some ((⟨r.1,r1.1,r2.1,r3.1,r7.1,0,⟨([]:List dl)⟩,r8.1,0⟩:cH),r8.2))else(if(r.1==4)then((br r3.2).bind fun r9=>(mg r9.2 2).bind fun r10=>some ((⟨r.1,r1.1,r2.1,r3.1,r9.1,0,⟨([]:List dl)⟩,r10.1,0⟩:cH),r10.2))else(if(r.1==5)then((fV r3.2).bind fun r11=>if r11.1 then(some ((⟨r.1,r1.1,r2.1,r3.1,0,0,⟨([]:List dl)⟩,⟨0,0,0,0,⟨[],false,0⟩⟩,300⟩:cH),r11.2))else(some ((⟨r.1,r1.1,r2.1,r3.1,0,0,⟨([]:List dl)⟩,⟨0,0,0,0,⟨[],false,0⟩⟩,140⟩:cH),r11.2)))else(some ((⟨r.1,r1.1,r2.1,r3.1,0,0,⟨([]:List dl)⟩,⟨0,0,0,0,⟨[],false,0⟩⟩,0⟩:cH),r3.2)))))
def m7(b:(List Int)):Option (cH×Bool):=(if(!(decide (20000<(b.length:Int))))then((xH b).bind fun r=>some (!r))else some true).bind fun t=>if t then(some ((⟨0,0,0,0,0,0,⟨[]⟩,⟨0,0,0,0,⟨[],false,0⟩⟩,0⟩:cH),false))else((dr b 0 (i64.wrap ((b.length:Int)-4))).bind fun y=>(lr (⟨y,0,false⟩:bd)).bind fun r1=>(if(!(r1.2.B_||(r1.2.At !=(r1.2.Bytes.length:Int))))then((q9 r1.1).bind fun r2=>some (!r2))else some true).bind fun t1=>if t1 then(some ((⟨0,0,0,0,0,0,⟨[]⟩,⟨0,0,0,0,⟨[],false,0⟩⟩,0⟩:cH),false))else(some (r1.1,true)))
def ja(b:(List Int)):Option Bool:=(Ba).bind fun r=>if(!r)then(some false)else(if(decide (30000<(b.length:Int)))then(some true)else((hU ([]:List Int) b).bind fun l1=>(mC l1).bind fun r1=>(m7 b).bind fun r2=>(if(!(r2.2 !=(r1.2==0)))then((kN r1.1 r2.1).bind fun r3=>some (!r3))else some true).bind fun t=>if t then(some false)else(if(r1.2 !=0)then((kN r1.1 (⟨0,0,0,0,0,0,⟨[]⟩,⟨0,0,0,0,⟨[],false,0⟩⟩,0⟩:cH)).bind fun r4=>some ((r4&&(((r1.2==7)||(r1.2==130))||(r1.2==331)))&&((r1.2==7)==(decide ((b.length:Int)<4)))))else((xO r1.1).bind fun r5=>(if r5 then((o9 r1.1).bind fun r6=>(pg r6 b).bind fun r7=>some r7)else some false).bind fun t1=>some t1))))