/- bS of this claim: F. -/
import Derived.Test.YtdohlidddcgfjaaGreatFfD
import Derived.Test.YtdohlidddcgfjaaGreatFfV4
set_option linter.all false
namespace Go.Proofs.YtdohlidddcgfjaaGreat
open Go

def v8(nx1:Int->(List Int)->Option (List Int))(n2:Int):Nat->Int->(List Int)->Option (List Int)
  |0,_,_=>none
  |n4+1,x,out2=>
    if(decide (x<n2))then
    ((gV out2 n2).bind fun e4=>
    (gV out2 x).bind fun e5=>
    (gV out2 (IntKind.i64.wrap (n2+x))).bind fun e6=>
    (some (out2.set (IntKind.i64.wrap (n2+x)).toNat (oV .xor .u32 e4 e5))).bind fun ar3=>
    (v8 nx1 n2 n4) (IntKind.i64.wrap (x+(1:Int))) ar3)
    else
    (nx1 (IntKind.i64.wrap (n2*(2:Int))) out2)

def sQ:Nat->Int->(List Int)->Option (List Int)
 |0,_,_=>none
 |n3+1,n2,out1=>
  if(decide (n2<(256:Int)))then
  (v8 (sQ n3) n2 fq (0:Int) out1)
  else
  (some out1)

def sR:Nat->Int->(List Int)->Option (List Int)
  |0,_,_=>none
  |n1+1,n,out=>
    if(decide ((0:Int)<n))then
    ((gV out (IntKind.i64.wrap ((2:Int)*n))).bind fun e1=>
    (gV out n).bind fun e2=>
    (some (out.set n.toNat ((e1).fdiv (2^(min (Int.toNat (1:Int)) IntKind.u32.bits))))).bind fun ar1=>
    if((oV .and .u32 e1 (1:Int))==(1:Int))then
    ((gV ar1 n).bind fun e3=>
    (some (ar1.set n.toNat (oV .xor .u32 e3 (2197175160:Int)))).bind fun ar2=>
    (sR n1) (IntKind.i64.wrap ((n).tdiv (2:Int))) ar2)
    else
    ((sR n1) (IntKind.i64.wrap ((n).tdiv (2:Int))) ar1))
    else
    (sQ fq (2:Int) out)

def B5:Option (List Int):=
 (gV (List.replicate 256 (0:Int)) (128:Int)).bind fun e=>
 (some ((List.replicate 256 (0:Int)).set (128:Int).toNat (2197175160:Int))).bind fun ar=>
 sR fq (64:Int) ar

def uw(register:Int)(w3:(List Int))(c:Int):Option Int:=
 (gV w3 (oV .xor .u8 (IntKind.u8.wrap register) c)).bind fun e=>
 some (oV .xor .u32 ((register).fdiv (2^(min (Int.toNat (8:Int)) IntKind.u32.bits))) e)

def o9(r:(List Int)):List Int->Int->Option Int
 |[],register=>
  some (oV .xor .u32 (if IntKind.u32.signed then -1 else IntKind.u32.max) register)
 |e::tl,register=>
  (uw register r e).bind fun r1=>
  (o9 r tl) r1

def yG(b:(List Int)):Option Int:=
 (B5).bind fun r=>
 o9 r b (4294967295:Int)

def oU(b:(List Int)):Option (List Int):=
 (app ([]:List Int) b).bind fun x=>
 some x

def nv:Nat->(List Int)->Int->Option (List Int)
 |0,out,n=>
  some out
 |k1+1,out,n=>
  (app out ([(IntKind.u8.wrap n)])).bind fun out1=>
  (nv k1) out1 ((n).fdiv (2^(min (Int.toNat (8:Int)) IntKind.u32.bits)))

def lV(b:(List Int)):Option (List Int):=
 (yG b).bind fun r=>
 (oU b).bind fun r1=>
 nv 4 r1 r

def nF(n:Int):Option Bool:=
 some ((decide ((0:Int)<=n))&&(decide (n<=(8:Int))))

def b8(s2:(List (List am)))(eq:((List am)->(List am)->Option Bool)):List (List am)->Nat->Option Bool
 |[],i=>
  some true
 |e::tl,i=>
  (gV s2 (i:Int)).bind fun e1=>
  (eq e e1).bind fun r=>
  if(!r)then
  (some false)
  else
  ((b8 s2 eq tl) (i+1))

def cm(s1:(List (List am)))(s2:(List (List am)))(eq:((List am)->(List am)->Option Bool)):Option Bool:=
 if((s1.length:Int) !=(s2.length:Int))then
 (some false)
 else
 (b8 s2 eq s1 0)

def dH(s2:(List am)):List am->Nat->Option Bool
 |[],i=>
  some true
 |e::tl,i=>
  (gV s2 (i:Int)).bind fun e1=>
  if(!decide (e=e1))then
  (some false)
  else
  ((dH s2 tl) (i+1))

def d5(s1:(List am))(s2:(List am)):Option Bool:=
 if((s1.length:Int) !=(s2.length:Int))then
 (some false)
 else
 (dH s2 s1 0)

def qf(p:(List am))(y:(List am)):Option Bool:=
 (d5 p y).bind fun r=>
 some r

def po(a1:aI)(b:aI):Option Bool:=
 (cm a1.Batch.Rows b.Batch.Rows qf).bind fun r=>
 some (((((((a1.Kind==b.Kind)&&(a1.Session==b.Session))&&(a1.Seq==b.Seq))&&(a1.Limit==b.Limit))&&(a1.Batch.End==b.Batch.End))&&(a1.Batch.Count==b.Batch.Count))&&r)

def j7(s2:(List Int)):List Int->Nat->Option Bool
 |[],i=>
  some true
 |e::tl,i=>
  (gV s2 (i:Int)).bind fun e1=>
  if(e !=e1)then
  (some false)
  else
  ((j7 s2 tl) (i+1))

def iv(s1:(List Int))(s2:(List Int)):Option Bool:=
 if((s1.length:Int) !=(s2.length:Int))then
 (some false)
 else
 (j7 s2 s1 0)

def gr(s2:(List ku)):List ku->Nat->Option Bool
 |[],i=>
  some true
 |e::tl,i=>
  (gV s2 (i:Int)).bind fun e1=>
  if(!decide (e=e1))then
  (some false)
  else
  ((gr s2 tl) (i+1))

def ib(s1:(List ku))(s2:(List ku)):Option Bool:=
 if((s1.length:Int) !=(s2.length:Int))then
 (some false)
 else
 (gr s2 s1 0)

def fe(s2:(List ap)):List ap->Nat->Option Bool
 |[],i=>
  some true
 |e::tl,i=>
  (gV s2 (i:Int)).bind fun e1=>
  if(!decide (e=e1))then
  (some false)
  else
  ((fe s2 tl) (i+1))

def f7(s1:(List ap))(s2:(List ap)):Option Bool:=
 if((s1.length:Int) !=(s2.length:Int))then
 (some false)
 else
 (fe s2 s1 0)

def tp(a1:aO)(b:aO):Option Bool:=
 (f7 a1.Nodes b.Nodes).bind fun r=>
 some r

def pQ(p:eY)(q:eY):Option Bool:=
  (if(p.Tag==q.Tag)then((tp p.Arg q.Arg).bind fun r=>
  some r)else some false).bind fun t=>
  some t

def dg(s2:(List eY))(eq:(eY->eY->Option Bool)):List eY->Nat->Option Bool
 |[],i=>
  some true
 |e::tl,i=>
  (gV s2 (i:Int)).bind fun e1=>
  (eq e e1).bind fun r=>
  if(!r)then
  (some false)
  else
  ((dg s2 eq tl) (i+1))

def dv(s1:(List eY))(s2:(List eY))(eq:(eY->eY->Option Bool)):Option Bool:=
 if((s1.length:Int) !=(s2.length:Int))then
 (some false)
 else
 (dg s2 eq s1 0)

def cT(s2:(List aO))(eq:(aO->aO->Option Bool)):List aO->Nat->Option Bool
 |[],i=>
  some true
 |e::tl,i=>
  (gV s2 (i:Int)).bind fun e1=>
  (eq e e1).bind fun r=>
  if(!r)then
  (some false)
  else
  ((cT s2 eq tl) (i+1))

def db(s1:(List aO))(s2:(List aO))(eq:(aO->aO->Option Bool)):Option Bool:=
 if((s1.length:Int) !=(s2.length:Int))then
 (some false)
 else
 (cT s2 eq s1 0)

def oA(p:aa)(y:aa):Option Bool:=
  (if((((((p.Op==y.Op)&&(p.A==y.A))&&(p.B==y.B))&&(p.Table==y.Table))&&(p.Left==y.Left))&&(p.Limit==y.Limit))then((iv p.Kinds y.Kinds).bind fun r=>
  some r)else some false).bind fun t=>
  (if t then((iv p.Keys y.Keys).bind fun r1=>
  some r1)else some false).bind fun t1=>
  (if t1 then((ib p.Order y.Order).bind fun r2=>
  some r2)else some false).bind fun t2=>
  (if t2 then((tp p.Cond y.Cond).bind fun r3=>
  some r3)else some false).bind fun t3=>
  (if t3 then((dv p.Aggs y.Aggs pQ).bind fun r4=>
  some r4)else some false).bind fun t4=>
  (if t4 then((db p.Items y.Items tp).bind fun r5=>
  some r5)else some false).bind fun t5=>
  some t5

def cS(s2:(List dp))(eq:(dp->dp->Option Bool)):List dp->Nat->Option Bool
 |[],i=>
  some true
 |e::tl,i=>
  (gV s2 (i:Int)).bind fun e1=>
  (eq e e1).bind fun r=>
  if(!r)then
  (some false)
  else
  ((cS s2 eq tl) (i+1))

def da(s1:(List dp))(s2:(List dp))(eq:(dp->dp->Option Bool)):Option Bool:=
 if((s1.length:Int) !=(s2.length:Int))then
 (some false)
 else
 (cS s2 eq s1 0)

def cM(s2:(List aa))(eq:(aa->aa->Option Bool)):List aa->Nat->Option Bool
 |[],i=>
  some true
 |e::tl,i=>
  (gV s2 (i:Int)).bind fun e1=>
  (eq e e1).bind fun r=>
  if(!r)then
  (some false)
  else
  ((cM s2 eq tl) (i+1))

def cP(s1:(List aa))(s2:(List aa))(eq:(aa->aa->Option Bool)):Option Bool:=
 if((s1.length:Int) !=(s2.length:Int))then
 (some false)
 else
 (cM s2 eq s1 0)

def sn(node:(aa->aa->Option Bool))(p:dp)(y:dp):Option Bool:=
  (if((p.At==y.At)&&(p.Way==y.Way))then((iv p.Cols y.Cols).bind fun r=>
  some r)else some false).bind fun t=>
  (if t then((cP p.Nodes y.Nodes node).bind fun r1=>
  some r1)else some false).bind fun t1=>
  some t1

def yM(a1:cV)(b:cV):Option Bool:=
 (da a1.Frags b.Frags (sn oA)).bind fun r=>
 some r

def qg(a1:bT)(b:bT):Option Bool:=
  (if((decide (([a1.Kind,a1.From,a1.To,a1.Epoch,a1.Frag,a1.Sites])=([b.Kind,b.From,b.To,b.Epoch,b.Frag,b.Sites])))&&(a1.Err==b.Err))then((po a1.Packet b.Packet).bind fun r=>
  some r)else some false).bind fun t=>
  (if t then((yM a1.Plan b.Plan).bind fun r1=>
  some r1)else some false).bind fun t1=>
  some t1

def qX(m:bT)(x:Bool):Option Bool:=
  if x then
  ((qg (bT.mk (0:Int) (0:Int) (0:Int) (0:Int) (0:Int) m.Sites m.Plan (⟨(0:Int),(0:Int),(0:Int),(0:Int),(⟨[],false,(0:Int)⟩:bI)⟩:aI) m.Err) (⟨(0:Int),(0:Int),(0:Int),(0:Int),(0:Int),(0:Int),(⟨[]⟩:cV),(⟨(0:Int),(0:Int),(0:Int),(0:Int),(⟨[],false,(0:Int)⟩:bI)⟩:aI),(0:Int)⟩:bT)).bind fun r1=>
  some r1)
  else
  (if(m.Kind==(5:Int))then
  ((qg (bT.mk (0:Int) (0:Int) (0:Int) (0:Int) m.Frag m.Sites m.Plan m.Packet (0:Int)) (⟨(0:Int),(0:Int),(0:Int),(0:Int),(0:Int),(0:Int),(⟨[]⟩:cV),(⟨(0:Int),(0:Int),(0:Int),(0:Int),(⟨[],false,(0:Int)⟩:bI)⟩:aI),(0:Int)⟩:bT)).bind fun r2=>
  some r2)
  else
  ((qg (bT.mk (0:Int) (0:Int) (0:Int) (0:Int) m.Frag m.Sites m.Plan m.Packet m.Err) (⟨(0:Int),(0:Int),(0:Int),(0:Int),(0:Int),(0:Int),(⟨[]⟩:cV),(⟨(0:Int),(0:Int),(0:Int),(0:Int),(⟨[],false,(0:Int)⟩:bI)⟩:aI),(0:Int)⟩:bT)).bind fun r3=>
  some r3))

def uH(m:bT):Option Bool:=
  if(m.Kind==(1:Int))then
  ((qg (bT.mk (0:Int) (0:Int) (0:Int) (0:Int) m.Frag (0:Int) (⟨[]⟩:cV) m.Packet m.Err) (⟨(0:Int),(0:Int),(0:Int),(0:Int),(0:Int),(0:Int),(⟨[]⟩:cV),(⟨(0:Int),(0:Int),(0:Int),(0:Int),(⟨[],false,(0:Int)⟩:bI)⟩:aI),(0:Int)⟩:bT)).bind fun r=>
  some r)
  else
  (if(m.Kind==(3:Int))then
  (qX m (m.Kind==(3:Int)))
  else
  (qX m (m.Kind==(4:Int))))

def qZ(c:Int):Option Bool:=
 some ((decide (c<(0:Int)))||(decide ((16:Int)<=c)))

def f6(f:(Int->Option Bool)):List Int->Nat->Option Int
 |[],i=>
  some (-1:Int)
 |e::tl,i=>
  (f e).bind fun r=>
  if r then
  (some (i:Int))
  else
  ((f6 f tl) (i+1))

def lX(ae:(List Int))(f:(Int->Option Bool)):Option Int:=
 f6 f ae 0

def eT(ae:(List Int))(f:(Int->Option Bool)):Option Bool:=
 (lX ae f).bind fun r=>
 some (decide ((0:Int)<=r))

def pg(k:Int):Option Bool:=
 some ((decide (k<(1:Int)))||(decide ((3:Int)<k)))

def jX(l:al):Option (Bool×al):=
 (eT ((({l with result:=l.n.Kinds}:al).n).Kinds) pg).bind fun r=>
 some ((((((!r)&&(decide ((0:Int)<=((({l with result:=l.n.Kinds}:al).n).Table))))&&(decide (((({l with result:=l.n.Kinds}:al).n).Table)<(4:Int))))&&(decide ((0:Int)<(((({l with result:=l.n.Kinds}:al).n).Kinds).length:Int))))&&(decide ((((({l with result:=l.n.Kinds}:al).n).Kinds).length:Int)<=(4:Int)))),({l with result:=l.n.Kinds}:al))

def nX(k:Int):Option Bool:=
 some ((decide (k<(0:Int)))||(decide ((4:Int)<k)))

def ic(l:al):Option (Bool×al):=
 (eT ((({l with result:=l.n.Kinds}:al).n).Kinds) nX).bind fun r=>
 some ((((((!r)&&(decide ((0:Int)<=((({l with result:=l.n.Kinds}:al).n).Table))))&&(decide (((({l with result:=l.n.Kinds}:al).n).Table)<(30:Int))))&&(decide ((0:Int)<(((({l with result:=l.n.Kinds}:al).n).Kinds).length:Int))))&&(decide ((((({l with result:=l.n.Kinds}:al).n).Kinds).length:Int)<=(16:Int)))),({l with result:=l.n.Kinds}:al))

def m7(ae:List Int):Option (List Int):=
 some ae

def m8(n:Int):Option (List Int):=
  if(decide ((0:Int)<(IntKind.i64.wrap (n-(IntKind.i64.wrap ((0:Int)-(0:Int)))))))then
  ((gt0 (IntKind.i64.wrap (n-(IntKind.i64.wrap ((0:Int)-(0:Int)))))).bind fun _=>
  (vY (IntKind.i64.wrap (n-(IntKind.i64.wrap ((0:Int)-(0:Int))))) (0:Int)).bind fun mk=>
  (dQ mk 0 (0:Int)).bind fun y=>
  m7 y)
  else
  (m7 ([]:List Int))

def mo(n:Int):Option (List Int):=
 if(decide (n<(0:Int)))then
 (none)
 else
 (m8 n)

def jF:List (List Int)->(List Int)->Option (List Int)
 |[],newslice=>
  some newslice
 |e1::tl1,newslice=>
  (app newslice e1).bind fun newslice1=>
  (jF tl1) newslice1

def jG(slices:(List (List Int))):List (List Int)->Int->Option (List Int)
 |[],size=>
  (mo size).bind fun r=>
  jF slices r
 |e::tl,size=>
  if(decide ((IntKind.i64.wrap (size+(e.length:Int)))<(0:Int)))then
  (none)
  else
  ((jG slices tl) (IntKind.i64.wrap (size+(e.length:Int))))

def jn(slices:(List (List Int))):Option (List Int):=
 jG slices slices (0:Int)

def rG(tag:Int):Option Int:=
  if((tag==(1:Int))||(tag==(2:Int)))then
  (some (0:Int))
  else
  (if((decide ((4:Int)<=tag))&&(decide (tag<=(7:Int))))then
  (some (1:Int))
  else
  (if((decide ((12:Int)<=tag))&&(decide (tag<=(23:Int))))then
  (some (2:Int))
  else
  (some (-1:Int))))

def la(v1:am):Option am:=
 some v1

def qJ(v2:am):Option am:=
 la (am.mk (0:Int) v2.N v2.U v2.S)

def qI(v:am):Option am:=
 qJ (am.mk v.Kind (0:Int) v.U v.S)

def qH(v3:am):Option am:=
 la v3

def xz(v:am):Option am:=
  if(v.Kind==(1:Int))then
  (if((v.N !=(0:Int))&&(v.N !=(1:Int)))then
  (la v)
  else
  (qI v))
  else
  (if(v.Kind==(2:Int))then
  (qI v)
  else
  (if(v.Kind==(0:Int))then
  (qJ v)
  else
  (if(v.Kind==(3:Int))then
  (if(decide ((v.S.length:Int)<=(40:Int)))then
  (qH (am.mk (0:Int) v.N v.U ([])))
  else
  (qH v))
  else
  (if(v.Kind==(4:Int))then
  (la (am.mk (0:Int) (0:Int) (0:Int) v.S))
  else
  (la v)))))

def ir(v:am):Option Int:=
 (xz v).bind fun r=>
 if(!decide (r=(⟨(0:Int),(0:Int),(0:Int),[]⟩:am)))then
 (some (120:Int))
 else
 (some (0:Int))

def uu(v:am):Option Bool:=
 (ir v).bind fun r=>
 some ((r==(0:Int))&&(v.Kind !=(4:Int)))

def uP(n:ap):Option Bool:=
  if(n.Tag==(1:Int))then
  ((uu n.Value).bind fun r=>
  some (r&&(n.Col==(0:Int))))
  else
  (if(n.Tag==(2:Int))then
  (some (((decide (n.Value=(⟨(0:Int),(0:Int),(0:Int),[]⟩:am)))&&(decide ((0:Int)<=n.Col)))&&(decide (n.Col<(16:Int)))))
  else
  (some ((decide (n.Value=(⟨(0:Int),(0:Int),(0:Int),[]⟩:am)))&&(n.Col==(0:Int)))))

def mT(nx:Nat->(List Int)->(List Int)->Option ((List Int)×Bool))(i:Nat)(e1:ap)(all:List Int)(open1:List Int)(r:Int):List Int->Nat->Int->(List Int)->Option ((List Int)×Bool)
  |[],i1,first,at1=>
    if(!decide (at1=([e1.L,e1.R])))then
    (some ([],false))
    else
    ((app all ([first])).bind fun all1=>
    (dQ open1 0 (IntKind.i64.wrap ((open1.length:Int)-r))).bind fun y1=>
    (app y1 ([(i:Int)])).bind fun open2=>
    nx (i+1) all1 open2)
  |e2::tl1,i1,first,at1=>
    (gV all e2).bind fun e3=>
    (gV at1 (i1:Int)).bind fun e4=>
    (some (at1.set (i1:Int).toNat e2)).bind fun ar=>
    (mT nx i e1 all open1 r tl1) (i1+1) (min first e3) ar

def lq:List ap->Nat->(List Int)->(List Int)->Option ((List Int)×Bool)
  |[],i,all,open1=>
    some (all,(((open1.length:Int)==(1:Int))&&(decide ((all.length:Int)<=(1000:Int)))))
  |e1::tl,i,all,open1=>
    (rG e1.Tag).bind fun r=>
    (if(!((decide (r<(0:Int)))||(decide ((open1.length:Int)<r))))then((uP e1).bind fun r1=>
    some (!r1))else some true).bind fun t=>
    if t then
    (some ([],false))
    else
    ((dQ open1 (IntKind.i64.wrap ((open1.length:Int)-r)) (open1.length:Int)).bind fun y=>
    mT (lq tl) i e1 all open1 r y 0 (i:Int) ([(-1:Int),(-1:Int)]))

def yp(e:aO):Option ((List Int)×Bool):=
 lq e.Nodes 0 ([]:List Int) ([]:List Int)

def ub(e:aO):Option Int:=
 (yp e).bind fun r=>
 if(!r.2)then
 (some (200:Int))
 else
 (some (0:Int))

def ew(i:Nat)(y:List Int):Nat->Nat->(List Int)->Int->Option (List Int)
  |0,i1,s1,k=>
    (dQ s1 k (s1.length:Int)).bind fun y1=>
    (some (s1.take k.toNat++List.replicate y1.length (0:Int))).bind fun cl=>
    (dQ cl 0 k).bind fun y2=>
    some y2
  |k2+1,i1,s1,k=>
    (Gh s1 (i:Int) y.length (i1:Int)).bind fun e3=>
    (Gh s1 (i:Int) y.length (IntKind.i64.wrap ((i1:Int)-(1:Int)))).bind fun e4=>
    if(e3 !=e4)then
    ((Gh s1 (i:Int) y.length (i1:Int)).bind fun e5=>
    (gV s1 k).bind fun e6=>
    (some (s1.set k.toNat e5)).bind fun st=>
    (ew i y k2) (i1+1) st (IntKind.i64.wrap (k+(1:Int))))
    else
    ((ew i y k2) (i1+1) s1 k)

def fE(ae:(List Int)):List Int->Nat->Option (List Int)
  |[],i=>
    some ae
  |e::tl,i=>
    (gV ae (IntKind.i64.wrap ((i:Int)-(1:Int)))).bind fun e1=>
    if(e==e1)then
    ((dQ ae (i:Int) (ae.length:Int)).bind fun y=>
    ew i y (y.length-1) 1 ae (i:Int))
    else
    ((fE ae tl) (i+1))

def kG(ae:(List Int)):Option (List Int):=
 if(decide ((ae.length:Int)<(2:Int)))then
 (some ae)
 else
 (fE ae (ae.drop (1)) 1)

def nf:List ap->(List Int)->Option (List Int)
  |[],out=>
    (Em out).bind fun srt=>
    (kG srt).bind fun r1=>
    some r1
  |e1::tl,out=>
    if(e1.Tag==(2:Int))then
    ((app out ([e1.Col])).bind fun out1=>
    (nf tl) out1)
    else
    ((nf tl) out)

def vI(e:aO):Option (List Int):=
 (ub e).bind fun r=>
 if(r !=(0:Int))then
 (some ([]:List Int))
 else
 (nf e.Nodes ([]:List Int))

def dX(ae:(List Int)):Option (List Int):=
 (app ([]:List Int) ae).bind fun x=>
 some x

def pW(stack:(List Int))(k:Int):Option ((List Int)×(List Int)):=
 (dQ stack (IntKind.i64.wrap ((stack.length:Int)-k)) (stack.length:Int)).bind fun y=>
 (dX y).bind fun r=>
 (dQ stack 0 (IntKind.i64.wrap ((stack.length:Int)-k))).bind fun y1=>
 some (r,y1)

def mS(bad:Int)(stack:List Int):Option (Int×Int):=
  if(bad !=(0:Int))then
  (some ((0:Int),bad))
  else
  ((gV stack (0:Int)).bind fun e1=>
  some (e1,(0:Int)))

def iB(do1:(ap->(List Int)->Option (Int×Int))):List ap->Int->(List Int)->Option (Int×Int)
  |[],bad1,stack1=>
    mS bad1 stack1
  |e2::tl,bad1,stack1=>
    (rG e2.Tag).bind fun r=>
    (pW stack1 r).bind fun r1=>
    (do1 e2 r1.1).bind fun r2=>
    if(r2.2 !=(0:Int))then
    (mS r2.2 r1.2)
    else
    ((app r1.2 ([r2.1])).bind fun l2=>
    (iB do1 tl) bad1 l2)

def pS(e:aO)(do1:(ap->(List Int)->Option (Int×Int))):Option (Int×Int):=
 iB do1 e.Nodes (0:Int) ([]:List Int)

def xa(tag:Int):Option Bool:=
 some ((tag==(4:Int))||((decide ((12:Int)<=tag))&&(decide (tag<=(15:Int)))))

def mU(kinds:(List Int))(n:ap):List Int->Int->Option (Int×Int)
  |[],own=>
    if(n.Tag==(1:Int))then
    (some (n.Value.Kind,(0:Int)))
    else
    (if(n.Tag==(2:Int))then
    ((gV kinds n.Col).bind fun e1=>
    some (e1,(0:Int)))
    else
    ((xa n.Tag).bind fun r=>
    if r then
    (if((own==(-1:Int))||((own !=(0:Int))&&(own !=(2:Int))))then
    (some ((0:Int),(201:Int)))
    else
    (some ((2:Int),(0:Int))))
    else
    (if(((n.Tag==(5:Int))||(n.Tag==(22:Int)))||(n.Tag==(23:Int)))then
    (if((own==(-1:Int))||((own !=(0:Int))&&(own !=(1:Int))))then
    (some ((0:Int),(201:Int)))
    else
    (some ((1:Int),(0:Int))))
    else
    (if((own==(-1:Int))||((own !=(0:Int))&&(own !=own)))then
    (some ((0:Int),(201:Int)))
    else
    (some ((1:Int),(0:Int)))))))
  |e::tl,own=>
    if((e==(0:Int))||(e==own))then
    ((mU kinds n tl) own)
    else
    (if(own==(0:Int))then
    ((mU kinds n tl) e)
    else
    ((mU kinds n tl) (-1:Int)))

def j3(kinds:(List Int))(n:ap)(l:(List Int)):Option (Int×Int):=
 mU kinds n l (0:Int)

def nd(e:aO)(kinds:(List Int)):List Int->Option (Int×Int)
 |[]=>
  (pS e (j3 kinds)).bind fun r2=>
  some (r2.1,r2.2)
 |e2::tl1=>
  if(decide ((kinds.length:Int)<=e2))then
  (some ((0:Int),(2:Int)))
  else
  ((nd e kinds tl1))

def q7(e:aO)(kinds:(List Int)):List Int->Option (Int×Int)
 |[]=>
  (vI e).bind fun r1=>
  nd e kinds r1
 |e1::tl=>
  if((decide (e1<(0:Int)))||(decide ((3:Int)<e1)))then
  (some ((0:Int),(2:Int)))
  else
  ((q7 e kinds tl))

def nH(e:aO)(kinds:(List Int)):Option (Int×Int):=
 (ub e).bind fun r=>
 if(r !=(0:Int))then
 (some ((0:Int),r))
 else
 (q7 e kinds kinds)

def kp(e:aO)(kinds:(List Int)):Option Bool:=
 (nH e kinds).bind fun r=>
 some ((r.2==(0:Int))&&((r.1==(0:Int))||(r.1==(1:Int))))

def hU(l:al):Option (Bool×al):=
 (jn ([l.a_,l.b])).bind fun r=>
 (kp ((({l with result:=r}:al).n).Cond) (({l with result:=r}:al).result)).bind fun r1=>
 some (r1,({l with result:=r}:al))

def fP(l:al):Option (Bool×al):=
 (kp ((({l with result:=l.a_}:al).n).Cond) (({l with result:=l.a_}:al).a_)).bind fun r=>
 some (r,({l with result:=l.a_}:al))

def eO(nx1:Bool->al->Option (Bool×al))(ob1:al)(ok1:Bool)(k:Int):Option (Bool×al):=
 (app ob1.result ([k])).bind fun l7=>
 nx1 ok1 ({ob1 with result:=l7}:al)

def ii(nx1:Bool->al->Option (Bool×al))(e1:eY)(ok:Bool)(ob1:al)(r:Int×Int)(x:Bool):Option (Bool×al):=
 if x then
 (eO nx1 ob1 (((ok&&(r.2==(0:Int)))&&(decide ((1:Int)<e1.Tag)))&&(decide (e1.Tag<=(5:Int)))) r.1)
 else
 (eO nx1 ob1 (((ok&&(r.2==(0:Int)))&&(decide ((1:Int)<e1.Tag)))&&(decide (e1.Tag<=(5:Int)))) (2:Int))

def cA:List eY->Bool->al->Option (Bool×al)
  |[],ok,ob1=>
    some (ok,ob1)
  |e1::tl1,ok,ob1=>
    if(e1.Tag==(1:Int))then
    (eO (cA tl1) ob1 (ok&&((e1.Arg.Nodes.length:Int)==(0:Int))) (2:Int))
    else
    ((nH e1.Arg ob1.a_).bind fun r=>
    if(e1.Tag==(3:Int))then
    (eO (cA tl1) ob1 ((((ok&&(r.2==(0:Int)))&&(decide ((1:Int)<e1.Tag)))&&(decide (e1.Tag<=(5:Int))))&&((r.1==(2:Int))||(r.1==(0:Int)))) (2:Int))
    else
    (if(e1.Tag==(4:Int))then
    (ii (cA tl1) e1 ok ob1 r (e1.Tag==(4:Int)))
    else
    (ii (cA tl1) e1 ok ob1 r (e1.Tag==(5:Int)))))

def dB(l:al):List Int->al->Option (Bool×al)
  |[],ob=>
    cA l.n.Aggs (((decide ((l.n.Keys.length:Int)<=(3:Int)))&&(decide ((l.n.Aggs.length:Int)<=(12:Int))))&&(decide ((0:Int)<(IntKind.i64.wrap ((l.n.Keys.length:Int)+(l.n.Aggs.length:Int)))))) ob
  |e::tl,ob=>
    if((decide (e<(0:Int)))||(decide ((ob.a_.length:Int)<=e)))then
    (some (false,ob))
    else
    ((gV ob.a_ e).bind fun e2=>
    (app ob.result ([e2])).bind fun l9=>
    (dB l tl) ({ob with result:=l9}:al))

def eC(l:al):Option (Bool×al):=
 dB l l.n.Keys ({l with result:=([]:List Int)}:al)

def fy:List eY->Nat->al->Option (Bool×al)
  |[],i1,ob=>
    some (true,ob)
  |e::tl,i1,ob=>
    if(e.Tag==(3:Int))then
    ((gV ob.result (IntKind.i64.wrap ((ob.n.Keys.length:Int)+(i1:Int)))).bind fun e1=>
    (some (ob.result.set (IntKind.i64.wrap ((ob.n.Keys.length:Int)+(i1:Int))).toNat (4:Int))).bind fun st=>
    (fy tl) (i1+1) ({ob with result:=st}:al))
    else
    ((fy tl) (i1+1) ob)

def d8(l:al):Option (Bool×al):=
 (eC l).bind fun r=>
 if(!r.1)then
 (some (false,r.2))
 else
 (fy r.2.n.Aggs 0 r.2)

def ij(nx1:Nat->Bool->al->Option (Bool×al))(i1:Nat)(e2:eY)(ok1:Bool)(ob:al)(e3:Int)(x1:Bool):Option (Bool×al):=
 if x1 then
 (nx1 (i1+1) ((ok1&&((e2.Arg.Nodes.length:Int)==(0:Int)))&&(e3 !=(4:Int))) ob)
 else
 (nx1 (i1+1) false ob)

def fG(l:al)(nx1:Nat->Bool->al->Option (Bool×al))(i1:Nat)(e2:eY)(ok1:Bool)(ob:al)(e3:Int)(x:Bool):Option (Bool×al):=
  if x then
  (nx1 (i1+1) ((ok1&&((e2.Arg.Nodes.length:Int)==(0:Int)))&&(e3==(2:Int))) ob)
  else
  (if(e2.Tag==(3:Int))then
  ((gV ob.result (IntKind.i64.wrap ((l.n.Keys.length:Int)+(i1:Int)))).bind fun e4=>
  (some (ob.result.set (IntKind.i64.wrap ((l.n.Keys.length:Int)+(i1:Int))).toNat (2:Int))).bind fun st=>
  nx1 (i1+1) ((ok1&&((e2.Arg.Nodes.length:Int)==(0:Int)))&&(e3==(4:Int))) ({ob with result:=st}:al))
  else
  (if(e2.Tag==(4:Int))then
  (ij nx1 i1 e2 ok1 ob e3 (e2.Tag==(4:Int)))
  else
  (ij nx1 i1 e2 ok1 ob e3 (e2.Tag==(5:Int)))))

def ca(l:al):List eY->Nat->Bool->al->Option (Bool×al)
 |[],i1,ok1,ob=>
  some (ok1,ob)
 |e2::tl1,i1,ok1,ob=>
  (gV ob.a_ (IntKind.i64.wrap ((l.n.Keys.length:Int)+(i1:Int)))).bind fun e3=>
  if(e2.Tag==(1:Int))then
  (fG l (ca l tl1) i1 e2 ok1 ob e3 (e2.Tag==(1:Int)))
  else
  (fG l (ca l tl1) i1 e2 ok1 ob e3 (e2.Tag==(2:Int)))

def ea(l:al)(r:(List Int)):List Int->Nat->Bool->Option (Bool×al)
  |[],i,ok=>
    ca l l.n.Aggs 0 ok ({l with result:=r}:al)
  |e1::tl,i,ok=>
    (if(ok&&(e1==(i:Int)))then((gV l.a_ (i:Int)).bind fun e5=>
    some (e5 !=(4:Int)))else some false).bind fun t=>
    (ea l r tl) (i+1) t

def dF(l:al):Option (Bool×al):=
  (gV l.nodes l.n.A).bind fun e=>
  if(!((((e.Op==(9:Int))&&(decide ((l.n.Keys.length:Int)<=(3:Int))))&&(decide ((l.n.Aggs.length:Int)<=(12:Int))))&&((IntKind.i64.wrap ((l.n.Keys.length:Int)+(l.n.Aggs.length:Int)))==(l.a_.length:Int))))then
  (some (false,l))
  else
  ((dX l.a_).bind fun r=>
  ea l r l.n.Keys 0 ((((e.Op==(9:Int))&&(decide ((l.n.Keys.length:Int)<=(3:Int))))&&(decide ((l.n.Aggs.length:Int)<=(12:Int))))&&((IntKind.i64.wrap ((l.n.Keys.length:Int)+(l.n.Aggs.length:Int)))==(l.a_.length:Int))))

def eF:List aO->al->Option (Bool×al)
  |[],ob=>
    some (decide ((0:Int)<(ob.result.length:Int)),ob)
  |e::tl,ob=>
    (nH e ob.a_).bind fun r=>
    if(r.2 !=(0:Int))then
    (some (false,ob))
    else
    ((app ob.result ([r.1])).bind fun l4=>
    (eF tl) ({ob with result:=l4}:al))

def iL(l:al):Option (Bool×al):=
 eF l.n.Items ({l with result:=([]:List Int)}:al)

def lD(l:al):Option (Bool×al):=
 some (true,({l with result:=l.a_}:al))

def fF(nx:Nat->al->Option (Bool×al))(i:Nat)(ob:al)(e1:Int)(k:Int):Option (Bool×al):=
  if((e1 !=(0:Int))&&(e1 !=k))then
  (some (false,ob))
  else
  ((app ob.result ([k])).bind fun l4=>
  nx (i+1) ({ob with result:=l4}:al))

def dA:List Int->Nat->al->Option (Bool×al)
 |[],i,ob=>
  some (true,ob)
 |e::tl,i,ob=>
  (gV ob.b (i:Int)).bind fun e1=>
  if(e==(0:Int))then
  (fF (dA tl) i ob e1 e1)
  else
  (fF (dA tl) i ob e1 e)

def jb(l:al):Option (Bool×al):=
 if((l.a_.length:Int) !=(l.b.length:Int))then
 (some (false,l))
 else
 (dA l.a_ 0 ({l with result:=([]:List Int)}:al))

def dW(f:(ku->Option Bool)):List ku->Nat->Option Int
 |[],i=>
  some (-1:Int)
 |e::tl,i=>
  (f e).bind fun r=>
  if r then
  (some (i:Int))
  else
  ((dW f tl) (i+1))

def iJ(ae:(List ku))(f:(ku->Option Bool)):Option Int:=
 dW f ae 0

def fg(ae:(List ku))(f:(ku->Option Bool)):Option Bool:=
 (iJ ae f).bind fun r=>
 some (decide ((0:Int)<=r))

def mK(l:al)(o:ku):Option Bool:=
 some ((decide (o.Col<(0:Int)))||(decide ((l.a_.length:Int)<=o.Col)))

def jW(l:al):Option (Bool×al):=
 (fg ((({l with result:=l.a_}:al).n).Order) (mK ({l with result:=l.a_}:al))).bind fun r=>
 some (((((!r)&&(decide ((((({l with result:=l.a_}:al).n).Order).length:Int)<=(3:Int))))&&(decide ((-1:Int)<=((({l with result:=l.a_}:al).n).Limit))))&&(decide (((({l with result:=l.a_}:al).n).Limit)<=(2147483647:Int)))),({l with result:=l.a_}:al))

def lE:Option (List (Int×(al->Unit->Option (Bool×al)))):=
 some (gC (gC (gC (gC (gC (gC (gC (gC (gC (gC (gC ([]:List (Int×(al->Unit->Option (Bool×al)))) (1:Int) (fun(mc:al) (mx:Unit)=>jX mc)) (9:Int) (fun(mc:al) (mx:Unit)=>ic mc)) (2:Int) (fun(mc:al) (mx:Unit)=>hU mc)) (3:Int) (fun(mc:al) (mx:Unit)=>fP mc)) (4:Int) (fun(mc:al) (mx:Unit)=>eC mc)) (10:Int) (fun(mc:al) (mx:Unit)=>d8 mc)) (11:Int) (fun(mc:al) (mx:Unit)=>dF mc)) (5:Int) (fun(mc:al) (mx:Unit)=>iL mc)) (6:Int) (fun(mc:al) (mx:Unit)=>lD mc)) (7:Int) (fun(mc:al) (mx:Unit)=>jb mc)) (8:Int) (fun(mc:al) (mx:Unit)=>jW mc))

def jI(x2:Bool):Option Int:=
 if x2 then
 (some (1:Int))
 else
 (some (-1:Int))

def rU(op:Int)(x1:Bool):Option Int:=
  if x1 then
  (some (2:Int))
  else
  (if(op==(3:Int))then
  (jI (op==(3:Int)))
  else
  (if(op==(4:Int))then
  (jI (op==(4:Int)))
  else
  (if(op==(5:Int))then
  (jI (op==(5:Int)))
  else
  (if(op==(6:Int))then
  (jI (op==(6:Int)))
  else
  (if(op==(8:Int))then
  (jI (op==(8:Int)))
  else
  (if(op==(10:Int))then
  (jI (op==(10:Int)))
  else
  (jI (op==(11:Int)))))))))

def rW(op:Int)(x:Bool):Option Int:=
  if x then
  (some (0:Int))
  else
  (if(op==(2:Int))then
  (rU op (op==(2:Int)))
  else
  (rU op (op==(7:Int))))

def wi(op:Int):Option Int:=
 if(op==(1:Int))then
 (rW op (op==(1:Int)))
 else
 (rW op (op==(9:Int)))

def rt(n:aa):Option Bool:=
 some ((((((((n.Op==(1:Int))||(n.Op==(9:Int)))||((n.Table==(0:Int))&&((n.Kinds.length:Int)==(0:Int))))&&((n.Op==(2:Int))||(!n.Left)))&&(((n.Op==(2:Int))||(n.Op==(3:Int)))||((n.Cond.Nodes.length:Int)==(0:Int))))&&((((n.Op==(4:Int))||(n.Op==(10:Int)))||(n.Op==(11:Int)))||((IntKind.i64.wrap ((n.Keys.length:Int)+(n.Aggs.length:Int)))==(0:Int))))&&((n.Op==(5:Int))||((n.Items.length:Int)==(0:Int))))&&((n.Op==(8:Int))||(((n.Order.length:Int)==(0:Int))&&(n.Limit==(0:Int)))))

def iu(v:Int):List Int->Nat->Option Int
 |[],i=>
  some (-1:Int)
 |e::tl,i=>
  if(v==e)then
  (some (i:Int))
  else
  ((iu v tl) (i+1))

def oq(ae:(List Int))(v:Int):Option Int:=
 iu v ae 0

def gn(ae:(List Int))(v:Int):Option Bool:=
 (oq ae v).bind fun r=>
 some (decide ((0:Int)<=r))

def bd(l:al)(i:Int)(ask:(al->Unit->Option (Bool×al)))(e:aa)(r:Int):List Int->Nat->(List Int)->(List Int)->Option (Bool×al)
  |[],i5,a_,b3=>
    if(((e.Op==(8:Int))||(e.Op==(10:Int)))&&(i !=(IntKind.i64.wrap (((({({({({({l with n:=e}:al)with a_:=[]}:al)with b:=[]}:al)with a_:=a_}:al)with b:=b3}:al).nodes).length:Int)-(1:Int)))))then
    (some (false,({({({({({l with n:=e}:al)with a_:=[]}:al)with b:=[]}:al)with a_:=a_}:al)with b:=b3}:al)))
    else
    ((ask ({({({({({l with n:=e}:al)with a_:=[]}:al)with b:=[]}:al)with a_:=a_}:al)with b:=b3}:al) ()).bind fun r2=>
    if((!r2.1)||(decide ((16:Int)<(r2.2.result.length:Int))))then
    (some (false,r2.2))
    else
    ((app r2.2.kinds ([r2.2.result])).bind fun l1=>
    (dQ r2.2.open_ 0 (IntKind.i64.wrap ((r2.2.open_.length:Int)-r))).bind fun y2=>
    (app y2 ([i])).bind fun l2=>
    some (true,({({r2.2 with kinds:=l1}:al)with open_:=l2}:al))))
  |e1::tl,i5,a_,b3=>
    (gV l.kinds e1).bind fun e2=>
    (if(e.Op !=(11:Int))then((gn e2 (4:Int)).bind fun r3=>
    some r3)else some false).bind fun t1=>
    if t1 then
    (some (false,({({({({({l with n:=e}:al)with a_:=[]}:al)with b:=[]}:al)with a_:=a_}:al)with b:=b3}:al)))
    else
    (if((i5:Int)==(0:Int))then
    ((bd l i ask e r tl) (i5+1) (({({({({({({l with n:=e}:al)with a_:=[]}:al)with b:=[]}:al)with a_:=a_}:al)with b:=b3}:al)with a_:=e2}:al).a_) (({({({({({({l with n:=e}:al)with a_:=[]}:al)with b:=[]}:al)with a_:=a_}:al)with b:=b3}:al)with a_:=e2}:al).b))
    else
    ((bd l i ask e r tl) (i5+1) (({({({({({({l with n:=e}:al)with a_:=[]}:al)with b:=[]}:al)with a_:=a_}:al)with b:=b3}:al)with b:=e2}:al).a_) (({({({({({({l with n:=e}:al)with a_:=[]}:al)with b:=[]}:al)with a_:=a_}:al)with b:=b3}:al)with b:=e2}:al).b)))

def dm(l:al)(i:Int)(ask:(al->Unit->Option (Bool×al))):Option (Bool×al):=
  (gV l.nodes i).bind fun e=>
  (wi e.Op).bind fun r=>
  (if(!((decide (r<(0:Int)))||(decide ((l.open_.length:Int)<r))))then((rt e).bind fun r1=>
  some (!r1))else some true).bind fun t=>
  if t then
  (some (false,l))
  else
  ((dQ l.open_ (IntKind.i64.wrap ((l.open_.length:Int)-r)) (l.open_.length:Int)).bind fun y=>
  if(!decide ((pD ([(-1:Int),(-1:Int)]) y)=([e.A,e.B])))then
  (some (false,l))
  else
  ((dQ l.open_ (IntKind.i64.wrap ((l.open_.length:Int)-r)) (l.open_.length:Int)).bind fun y1=>
  bd l i ask e r y1 0 (({({({l with n:=e}:al)with a_:=[]}:al)with b:=[]}:al).a_) (({({({l with n:=e}:al)with a_:=[]}:al)with b:=[]}:al).b)))

def nw:List (List Int)->(List (List Int))->Option ((List (List Int))×Int×Int)
 |[],out=>
  some (out,(0:Int),(0:Int))
 |e::tl,out=>
  (dX e).bind fun r1=>
  (app out ([r1])).bind fun out1=>
  (nw tl) out1

def lY(ob:al)(wrong1:Int):Option ((List (List Int))×Int×Int):=
 if(decide ((0:Int)<=wrong1))then
 (some ([],wrong1,(291:Int)))
 else
 (nw ob.kinds ([]:List (List Int)))

def jJ(nodes:(List aa))(wrong:Int)(ob:al):Option ((List (List Int))×Int×Int):=
 if((decide (wrong<(0:Int)))&&((ob.open_.length:Int) !=(1:Int)))then
 (lY ob (IntKind.i64.wrap ((nodes.length:Int)-(1:Int))))
 else
 (lY ob wrong)

def fh(nodes:(List aa))(r:(List (Int×(al->Unit->Option (Bool×al))))):List aa->Nat->Int->al->Option ((List (List Int))×Int×Int)
 |[],i1,wrong2,ob1=>
  jJ nodes wrong2 ob1
 |e1::tl1,i1,wrong2,ob1=>
  (dm ob1 (i1:Int) ((uo r e1.Op).getD (fun _ _=>none))).bind fun r2=>
  if(!r2.1)then
  (jJ nodes (i1:Int) r2.2)
  else
  ((fh nodes r tl1) (i1+1) wrong2 r2.2)

def iM(nodes:(List aa)):Option ((List (List Int))×Int×Int):=
  if((decide ((nodes.length:Int)<(1:Int)))||(decide ((60:Int)<(nodes.length:Int))))then
  (some ([],(0:Int),(291:Int)))
  else
  ((lE).bind fun r=>
  fh nodes r nodes 0 (-1:Int) (⟨nodes,[],[],(⟨(0:Int),(0:Int),(0:Int),(0:Int),[],false,(⟨[]⟩:aO),[],[],[],[],(0:Int)⟩:aa),[],[],[]⟩:al))

def nG(p:cV):List dp->Option Bool
  |[]=>
    some ((decide ((1:Int)<=(p.Frags.length:Int)))&&(decide ((p.Frags.length:Int)<=(30:Int))))
  |e::tl=>
    (iM e.Nodes).bind fun r=>
    (if(((decide ((1:Int)<=e.Way))&&(decide (e.Way<=(4:Int))))&&(decide ((e.Cols.length:Int)<=(16:Int))))then((eT e.Cols qZ).bind fun r1=>
    some (!r1))else some false).bind fun t=>
    if(((r.2.2 !=(0:Int))||(!((e.At==(1:Int))||(e.At==(2:Int)))))||(!t))then
    (some false)
    else
    ((nG p tl))

def tX(p:cV):Option Bool:=
 nG p p.Frags

def wn(n:Int):Option Bool:=
 some ((decide ((1:Int)<=n))&&(decide (n<=(2147483647:Int))))

def dV(f:((List am)->Option Bool)):List (List am)->Nat->Option Int
 |[],i=>
  some (-1:Int)
 |e::tl,i=>
  (f e).bind fun r=>
  if r then
  (some (i:Int))
  else
  ((dV f tl) (i+1))

def iI(ae:(List (List am)))(f:((List am)->Option Bool)):Option Int:=
 dV f ae 0

def ff(ae:(List (List am)))(f:((List am)->Option Bool)):Option Bool:=
 (iI ae f).bind fun r=>
 some (decide ((0:Int)<=r))

def si(v:am):Option Bool:=
 (ir v).bind fun r=>
 some (r !=(0:Int))

def df(f:(am->Option Bool)):List am->Nat->Option Int
 |[],i=>
  some (-1:Int)
 |e::tl,i=>
  (f e).bind fun r=>
  if r then
  (some (i:Int))
  else
  ((df f tl) (i+1))

def ld(ae:(List am))(f:(am->Option Bool)):Option Int:=
 df f ae 0

def gH(ae:(List am))(f:(am->Option Bool)):Option Bool:=
 (ld ae f).bind fun r=>
 some (decide ((0:Int)<=r))

def yH(r:(List am)):Option Bool:=
  (if(decide ((r.length:Int)<=(16:Int)))then((gH r si).bind fun r1=>
  some (!r1))else some false).bind fun t=>
  some t

def yI(r:(List am)):Option Int:=
 (yH r).bind fun r1=>
 if(!r1)then
 (some (150:Int))
 else
 (some (0:Int))

def xY(r:(List am)):Option Bool:=
 (yI r).bind fun r1=>
 some (r1 !=(0:Int))

def yS(l:(List (List am))):Option Bool:=
  (if((decide ((0:Int)<(l.length:Int)))&&(decide ((l.length:Int)<=(4:Int))))then((ff l xY).bind fun r=>
  some (!r))else some false).bind fun t=>
  some t

def wo(b:bI)(seq:Int):Option Bool:=
  if((decide (seq<(1:Int)))||(decide ((1099511627776:Int)<seq)))then
  (some false)
  else
  (if b.End then
  (some (((b.Rows.length:Int)==(0:Int))&&(b.Count==(IntKind.u64.wrap (seq-(1:Int))))))
  else
  ((if(b.Count==(0:Int))then((yS b.Rows).bind fun r=>
  some r)else some false).bind fun t=>
  some t))

def vu(a1:(List am))(b:(List am)):Option Bool:=
 (d5 a1 b).bind fun r=>
 some r

def AU(a1:(List (List am)))(b:(List (List am))):Option Bool:=
 (cm a1 b vu).bind fun r=>
 some r

def yR(a1:bI)(b:bI):Option Bool:=
  (if((a1.End==b.End)&&(a1.Count==b.Count))then((AU a1.Rows b.Rows).bind fun r=>
  some r)else some false).bind fun t=>
  some t

def pj(p:aI):Option Int:=
  (wn p.Session).bind fun r=>
  if(p.Kind==(1:Int))then
  ((if(r&&(p.Limit==(0:Int)))then((wo p.Batch p.Seq).bind fun r1=>
  some r1)else some false).bind fun t=>
  if(!t)then
  (some (321:Int))
  else
  (some (0:Int)))
  else
  (if(p.Kind==(2:Int))then
  ((if r then((yR p.Batch (⟨[],false,(0:Int)⟩:bI)).bind fun r2=>
  some r2)else some false).bind fun t1=>
  if(!((((t1&&(decide ((1:Int)<=p.Seq)))&&(decide (p.Seq<=(1099511627777:Int))))&&(decide ((IntKind.u64.wrap (p.Seq-(1:Int)))<=p.Limit)))&&(decide (p.Limit<=(1099511627776:Int)))))then
  (some (321:Int))
  else
  (some (0:Int)))
  else
  (if(!false)then
  (some (321:Int))
  else
  (some (0:Int))))

def iT(m:bT)(kind:Int):Option Bool:=
  (if(((decide ((0:Int)<=m.Frag))&&(decide (m.Frag<(30:Int))))&&(m.Packet.Kind==kind))then((pj m.Packet).bind fun r=>
  some (r==(0:Int)))else some false).bind fun t=>
  some t

def nt(m:bT)(x:Bool):Option Bool:=
  if x then
  (some true)
  else
  (if(m.Kind==(3:Int))then
  (((iT m) (1:Int)).bind fun r1=>
  some r1)
  else
  (if(m.Kind==(4:Int))then
  (((iT m) (2:Int)).bind fun r2=>
  some r2)
  else
  (if(m.Kind==(5:Int))then
  (some ((m.Err==(140:Int))||(m.Err==(300:Int))))
  else
  (some false))))

def sX(m:bT):Option Bool:=
  if(m.Kind==(1:Int))then
  ((if((decide ((1:Int)<=m.Sites))&&(decide (m.Sites<=(8:Int))))then((tX m.Plan).bind fun r=>
  some r)else some false).bind fun t=>
  some t)
  else
  (if(m.Kind==(2:Int))then
  (nt m (m.Kind==(2:Int)))
  else
  (if(m.Kind==(6:Int))then
  (nt m (m.Kind==(6:Int)))
  else
  (nt m (m.Kind==(7:Int)))))

def m3(m:bT):Option Bool:=
  (nF m.From).bind fun r=>
  (if r then((nF m.To).bind fun r1=>
  some r1)else some false).bind fun t=>
  (if((t&&(decide ((1:Int)<=m.Epoch)))&&(decide (m.Epoch<=(12:Int))))then((uH m).bind fun r2=>
  some r2)else some false).bind fun t1=>
  (if t1 then((sX m).bind fun r3=>
  some r3)else some false).bind fun t2=>
  some t2

def fZ:List Int->aT->Option aT
 |[],ob=>
  some ob
 |e::tl,ob=>
  (app ob.bytes ([(IntKind.u8.wrap e)])).bind fun l2=>
  (fZ tl) ({ob with bytes:=l2}:aT)

def cb(w1:aT)(l:(List Int)):Option aT:=
 fZ l w1

def ke(w1:aT)(l:(List Int)):Option aT:=
 (cb w1 ([(l.length:Int)])).bind fun r=>
 (cb r l).bind fun r1=>
 some r1

def fi(w1:aT)(n:aa):Option aT:=
 (cb w1 ([n.Table])).bind fun r=>
 (ke r n.Kinds).bind fun r1=>
 some r1

def lO(w1:aT)(n:Int):Option aT:=
 (cb w1 ([n])).bind fun r=>
 some r

def gW(w1:aT)(is1:Bool):Option aT:=
 if is1 then
 (lO w1 (1:Int))
 else
 (lO w1 (0:Int))

def kC(p:Int)(bytes:Int):Nat->(List Int)->Int->Option (List Int)
  |0,_,_=>none
  |n+1,out1,x=>
    if(decide (x<bytes))then
    ((Z0 (IntKind.i64.wrap ((IntKind.i64.wrap ((8:Int)*(IntKind.i64.wrap (bytes-x))))-(8:Int)))).bind fun u=>
    (app out1 ([(IntKind.u8.wrap (((IntKind.u64.wrap p)).fdiv (2^(min (Int.toNat (IntKind.i64.wrap ((IntKind.i64.wrap ((8:Int)*(IntKind.i64.wrap (bytes-x))))-(8:Int)))) IntKind.u64.bits))))])).bind fun out2=>
    (kC p bytes n) out2 (IntKind.i64.wrap (x+(1:Int))))
    else
    (some out1)

def rC(b:(List Int))(p:Int)(bytes:Int):Option (List Int):=
 (xy (0:Int) (IntKind.i64.wrap ((b.length:Int)+bytes)) (0:Int)).bind fun mk=>
 (app mk b).bind fun out=>
 kC p bytes fq out (0:Int)

def qv(b:(List Int))(p:Int):Option (List Int):=
 (rC b p (2:Int)).bind fun r=>
 some r

def ek(p:Int)(bytes:Int):Nat->(List Int)->Int->Option (List Int)
  |0,_,_=>none
  |n+1,out1,x=>
    if(decide (x<bytes))then
    ((Z0 (IntKind.i64.wrap ((IntKind.i64.wrap ((8:Int)*(IntKind.i64.wrap (bytes-x))))-(8:Int)))).bind fun u=>
    (app out1 ([(IntKind.u8.wrap ((p).fdiv (2^(min (Int.toNat (IntKind.i64.wrap ((IntKind.i64.wrap ((8:Int)*(IntKind.i64.wrap (bytes-x))))-(8:Int)))) IntKind.u64.bits))))])).bind fun out2=>
    (ek p bytes n) out2 (IntKind.i64.wrap (x+(1:Int))))
    else
    (some out1)

def rz(b:(List Int))(p:Int)(bytes:Int):Option (List Int):=
 (xy (0:Int) (IntKind.i64.wrap ((b.length:Int)+bytes)) (0:Int)).bind fun mk=>
 (app mk b).bind fun out=>
 ek p bytes fq out (0:Int)

def jY(b:(List Int))(p:Int):Option (List Int):=
 (rz b p (8:Int)).bind fun r=>
 some r

def sr(v:am):Option ((List Int)×Int):=
  (ir v).bind fun r=>
  if(r !=(0:Int))then
  (some ([],r))
  else
  (if(v.Kind==(1:Int))then
  ((app ([(IntKind.u8.wrap v.Kind)]) ([(IntKind.u8.wrap v.N)])).bind fun b=>
  some (b,(0:Int)))
  else
  (if(v.Kind==(2:Int))then
  ((jY ([(IntKind.u8.wrap v.Kind)]) (IntKind.u64.wrap v.N)).bind fun r1=>
  some (r1,(0:Int)))
  else
  (if(v.Kind==(3:Int))then
  ((app ([(IntKind.u8.wrap v.Kind)]) ([(IntKind.u8.wrap (v.S.length:Int))])).bind fun l3=>
  (app l3 (kh v.S)).bind fun b1=>
  some (b1,(0:Int)))
  else
  (if(v.Kind==(4:Int))then
  ((jY ([(IntKind.u8.wrap v.Kind)]) (IntKind.u64.wrap v.N)).bind fun r2=>
  (jY r2 v.U).bind fun r3=>
  some (r3,(0:Int)))
  else
  (some ([(IntKind.u8.wrap v.Kind)],(0:Int)))))))

def dY:List ap->aT->Option aT
  |[],ob=>
    some ob
  |e1::tl,ob=>
    (cb ob ([e1.Tag])).bind fun r1=>
    if(e1.Tag==(2:Int))then
    ((cb r1 ([e1.Col])).bind fun r2=>
    (dY tl) r2)
    else
    (if(e1.Tag==(1:Int))then
    ((sr e1.Value).bind fun r3=>
    (app r1.bytes r3.1).bind fun l1=>
    (dY tl) ({r1 with bytes:=l1}:aT))
    else
    ((dY tl) r1))

def iP(w1:aT)(e:aO):Option aT:=
 (qv w1.bytes (IntKind.u16.wrap (e.Nodes.length:Int))).bind fun r=>
 dY e.Nodes ({w1 with bytes:=r}:aT)

def iO(w1:aT)(n:aa):Option aT:=
 (gW w1 n.Left).bind fun r=>
 (iP r n.Cond).bind fun r1=>
 some r1

def gQ(w1:aT)(n:aa):Option aT:=
 (iP w1 n.Cond).bind fun r=>
 some r

def hD:List eY->aT->Option aT
 |[],ob=>
  some ob
 |e::tl,ob=>
  (cb ob ([e.Tag])).bind fun r2=>
  (iP r2 e.Arg).bind fun r3=>
  (hD tl) r3

def ed(w1:aT)(n:aa):Option aT:=
 (ke w1 n.Keys).bind fun r=>
 (cb r ([(n.Aggs.length:Int)])).bind fun r1=>
 hD n.Aggs r1

def gq:List aO->aT->Option aT
 |[],ob=>
  some ob
 |e::tl,ob=>
  (iP ob e).bind fun r1=>
  (gq tl) r1

def gv(w1:aT)(n:aa):Option aT:=
 (cb w1 ([(n.Items.length:Int)])).bind fun r=>
 gq n.Items r

def kz(p:Int)(bytes:Int):Nat->(List Int)->Int->Option (List Int)
  |0,_,_=>none
  |n+1,out1,x=>
    if(decide (x<bytes))then
    ((Z0 (IntKind.i64.wrap ((IntKind.i64.wrap ((8:Int)*(IntKind.i64.wrap (bytes-x))))-(8:Int)))).bind fun u=>
    (app out1 ([(IntKind.u8.wrap (((IntKind.u64.wrap p)).fdiv (2^(min (Int.toNat (IntKind.i64.wrap ((IntKind.i64.wrap ((8:Int)*(IntKind.i64.wrap (bytes-x))))-(8:Int)))) IntKind.u64.bits))))])).bind fun out2=>
    (kz p bytes n) out2 (IntKind.i64.wrap (x+(1:Int))))
    else
    (some out1)

def rA(b:(List Int))(p:Int)(bytes:Int):Option (List Int):=
 (xy (0:Int) (IntKind.i64.wrap ((b.length:Int)+bytes)) (0:Int)).bind fun mk=>
 (app mk b).bind fun out=>
 kz p bytes fq out (0:Int)

def m2(b:(List Int))(p:Int):Option (List Int):=
 (rA b p (4:Int)).bind fun r=>
 some r

def g9(n:aa):List ku->aT->Option aT
 |[],ob=>
  (m2 ob.bytes (IntKind.u32.wrap (IntKind.i64.wrap (n.Limit+(1:Int))))).bind fun r1=>
  some ({ob with bytes:=r1}:aT)
 |e::tl,ob=>
  (cb ob ([e.Col])).bind fun r2=>
  (gW r2 e.Desc).bind fun r3=>
  (g9 n tl) r3

def im(w1:aT)(n:aa):Option aT:=
 (cb w1 ([(n.Order.length:Int)])).bind fun r=>
 g9 n n.Order r

def eH(nx:aT->Option aT):List aa->aT->Option aT
  |[],ob1=>
    nx ob1
  |e1::tl1,ob1=>
    (cb ob1 ([e1.Op])).bind fun r4=>
    if((uo (gC (gC (gC (gC (gC (gC (gC (gC (gC ([]:List (Int×(aT->aa->Option (Unit×aT)))) (1:Int) (fun(mc:aT) (mx:aa)=>(fi mc mx).map fun mr=>((),mr))) (9:Int) (fun(mc:aT) (mx:aa)=>(fi mc mx).map fun mr=>((),mr))) (2:Int) (fun(mc:aT) (mx:aa)=>(iO mc mx).map fun mr=>((),mr))) (3:Int) (fun(mc:aT) (mx:aa)=>(gQ mc mx).map fun mr=>((),mr))) (4:Int) (fun(mc:aT) (mx:aa)=>(ed mc mx).map fun mr=>((),mr))) (10:Int) (fun(mc:aT) (mx:aa)=>(ed mc mx).map fun mr=>((),mr))) (11:Int) (fun(mc:aT) (mx:aa)=>(ed mc mx).map fun mr=>((),mr))) (5:Int) (fun(mc:aT) (mx:aa)=>(gv mc mx).map fun mr=>((),mr))) (8:Int) (fun(mc:aT) (mx:aa)=>(im mc mx).map fun mr=>((),mr))) e1.Op).isSome)then
    ((((uo (gC (gC (gC (gC (gC (gC (gC (gC (gC ([]:List (Int×(aT->aa->Option (Unit×aT)))) (1:Int) (fun(mc:aT) (mx:aa)=>(fi mc mx).map fun mr=>((),mr))) (9:Int) (fun(mc:aT) (mx:aa)=>(fi mc mx).map fun mr=>((),mr))) (2:Int) (fun(mc:aT) (mx:aa)=>(iO mc mx).map fun mr=>((),mr))) (3:Int) (fun(mc:aT) (mx:aa)=>(gQ mc mx).map fun mr=>((),mr))) (4:Int) (fun(mc:aT) (mx:aa)=>(ed mc mx).map fun mr=>((),mr))) (10:Int) (fun(mc:aT) (mx:aa)=>(ed mc mx).map fun mr=>((),mr))) (11:Int) (fun(mc:aT) (mx:aa)=>(ed mc mx).map fun mr=>((),mr))) (5:Int) (fun(mc:aT) (mx:aa)=>(gv mc mx).map fun mr=>((),mr))) (8:Int) (fun(mc:aT) (mx:aa)=>(im mc mx).map fun mr=>((),mr))) e1.Op).getD (fun _ _=>none)) r4 (e1)).bind fun r5=>
    (eH nx tl1) r5.2)
    else
    ((eH nx tl1) r4)

def gw:List dp->aT->Option aT
 |[],ob=>
  some ob
 |e::tl,ob=>
  (cb ob ([e.At,e.Way])).bind fun r1=>
  (ke r1 e.Cols).bind fun r2=>
  (cb r2 ([(e.Nodes.length:Int)])).bind fun r3=>
  eH (gw tl) e.Nodes r3

def lN(w1:aT)(p:cV):Option aT:=
 (cb w1 ([(p.Frags.length:Int)])).bind fun r=>
 gw p.Frags r

def lF:List am->(List Int)->Option ((List Int)×Int)
  |[],b1=>
    some (b1,(0:Int))
  |e::tl,b1=>
    (sr e).bind fun r=>
    if(r.2 !=(0:Int))then
    (some (([]:List Int),r.2))
    else
    ((app b1 r.1).bind fun b3=>
    (lF tl) b3)

def wL(b:(List Int))(l1:(List am)):Option ((List Int)×Int):=
 lF l1 b

def yX(r:(List am)):Option ((List Int)×Int):=
  if(decide ((16:Int)<(r.length:Int)))then
  (some ([],(3:Int)))
  else
  ((wL ([(IntKind.u8.wrap (r.length:Int))]) r).bind fun r1=>
  some (r1.1,r1.2))

def pT(b:List Int)(at1:Int)(e:Int):Option ((List Int)×Int×Int):=
 if(e !=(0:Int))then
 (some ([],at1,e))
 else
 (some (b,(0:Int),(0:Int)))

def nI:List (List am)->Nat->(List Int)->Int->Int->Option ((List Int)×Int×Int)
  |[],i,b1,at2,e1=>
    pT b1 at2 e1
  |e2::tl,i,b1,at2,e1=>
    (yX e2).bind fun r1=>
    if(r1.2 !=(0:Int))then
    (pT b1 (i:Int) r1.2)
    else
    ((app b1 r1.1).bind fun b2=>
    (nI tl) (i+1) b2 at2 r1.2)

def wM(l:(List (List am))):Option ((List Int)×Int×Int):=
  if(decide ((400:Int)<(l.length:Int)))then
  (some ([],(0:Int),(3:Int)))
  else
  ((qv ([]) (IntKind.u16.wrap (l.length:Int))).bind fun r=>
  nI l 0 r (0:Int) (0:Int))

def mq(w1:aT)(p:aI):Option aT:=
  (m2 w1.bytes p.Session).bind fun r=>
  (jY r p.Seq).bind fun r1=>
  if(p.Kind==(2:Int))then
  ((jY r1 p.Limit).bind fun r2=>
  some ({({w1 with bytes:=r1}:aT)with bytes:=r2}:aT))
  else
  ((gW ({w1 with bytes:=r1}:aT) p.Batch.End).bind fun r3=>
  if p.Batch.End then
  ((jY r3.bytes p.Batch.Count).bind fun r4=>
  some ({r3 with bytes:=r4}:aT))
  else
  ((wM p.Batch.Rows).bind fun r5=>
  (app r3.bytes r5.1).bind fun l=>
  some ({r3 with bytes:=l}:aT)))

def kc(m:bT)(r:aT)(x:Bool):Option aT:=
  if x then
  ((cb r ([m.Frag])).bind fun r3=>
  (mq r3 m.Packet).bind fun r4=>
  some r4)
  else
  (if(m.Kind==(5:Int))then
  ((gW r (m.Err==(300:Int))).bind fun r5=>
  some r5)
  else
  (some r))

def jZ(w1:aT)(m:bT):Option aT:=
  (cb w1 ([m.Kind,m.From,m.To,m.Epoch])).bind fun r=>
  if(m.Kind==(1:Int))then
  ((cb r ([m.Sites])).bind fun r1=>
  (lN r1 m.Plan).bind fun r2=>
  some r2)
  else
  (if(m.Kind==(3:Int))then
  (kc m r (m.Kind==(3:Int)))
  else
  (kc m r (m.Kind==(4:Int))))

def pr(m:bT):Option ((List Int)×Int):=
  (m3 m).bind fun r=>
  if(!r)then
  (some ([],(330:Int)))
  else
  ((jZ (⟨[]⟩:aT) m).bind fun r1=>
  (lV r1.bytes).bind fun r2=>
  if(decide ((20000:Int)<(r2.length:Int)))then
  (some ([],(330:Int)))
  else
  (some (r2,(0:Int))))

def ss(a1:(List Int))(b:(List Int)):Option Bool:=
 some ((pC a1)==(pC b))

def xZ:Option Bool:=
  (pr (⟨(2:Int),(2:Int),(0:Int),(3:Int),(0:Int),(0:Int),(⟨[]⟩:cV),(⟨(0:Int),(0:Int),(0:Int),(0:Int),(⟨[],false,(0:Int)⟩:bI)⟩:aI),(0:Int)⟩:bT)).bind fun r=>
  (if((r.2==(0:Int))&&((r.1.length:Int)==(8:Int)))then((dQ r.1 0 (4:Int)).bind fun y=>
  (ss y ([(2:Int),(2:Int),(0:Int),(3:Int)])).bind fun r1=>
  some r1)else some false).bind fun t=>
  some t

def kb:List ap->Option Bool
 |[]=>
  some false
 |e1::tl=>
  if(decide ((100:Int)<(e1.Value.S.length:Int)))then
  (some true)
  else
  ((kb tl))

def ll(e:aO):Option Bool:=
 if(decide ((100:Int)<(e.Nodes.length:Int)))then
 (some true)
 else
 (kb e.Nodes)

def il(nx:Option Bool):List eY->Option Bool
 |[]=>
  nx
 |e2::tl2=>
  (ll e2.Arg).bind fun r1=>
  if r1 then
  (some true)
  else
  ((il nx tl2))

def jx(nx:Option Bool)(e:aa):List aO->Option Bool
 |[]=>
  il nx e.Aggs
 |e1::tl1=>
  (ll e1).bind fun r2=>
  if r2 then
  (some true)
  else
  ((jx nx e tl1))

def eP:List aa->Option Bool
  |[]=>
    some false
  |e::tl=>
    (if(!(((((decide ((20:Int)<(e.Kinds.length:Int)))||(decide ((20:Int)<(e.Keys.length:Int))))||(decide ((20:Int)<(e.Order.length:Int))))||(decide ((20:Int)<(e.Items.length:Int))))||(decide ((20:Int)<(e.Aggs.length:Int)))))then((ll e.Cond).bind fun r=>
    some r)else some true).bind fun t=>
    if t then
    (some true)
    else
    (jx (eP tl) e e.Items)

def np(l:(List aa)):Option Bool:=
 if(decide ((70:Int)<(l.length:Int)))then
 (some true)
 else
 (eP l)

def ka:List dp->Option Bool
  |[]=>
    some false
  |e::tl=>
    (if(!(decide ((40:Int)<(e.Cols.length:Int))))then((np e.Nodes).bind fun r=>
    some r)else some true).bind fun t=>
    if t then
    (some true)
    else
    ((ka tl))

def oG(p:cV):Option Bool:=
 if(decide ((40:Int)<(p.Frags.length:Int)))then
 (some true)
 else
 (ka p.Frags)

def j9(nx:Option Bool):List am->Option Bool
 |[]=>
  nx
 |e1::tl1=>
  if(decide ((100:Int)<(e1.S.length:Int)))then
  (some true)
  else
  ((j9 nx tl1))

def gU:List (List am)->Option Bool
 |[]=>
  some false
 |e::tl=>
  if(decide ((20:Int)<(e.length:Int)))then
  (some true)
  else
  (j9 (gU tl) e)

def oF(l:(List (List am))):Option Bool:=
 if(decide ((10:Int)<(l.length:Int)))then
 (some true)
 else
 (gU l)

def tW(m:bT):Option Bool:=
  (oG m.Plan).bind fun r=>
  (if(!r)then((oF m.Packet.Batch.Rows).bind fun r1=>
  some r1)else some true).bind fun t=>
  some t

def jV(v:am):Option Bool:=
  if(v.Kind==(0:Int))then
  (some (decide (v=(⟨(0:Int),(0:Int),(0:Int),[]⟩:am))))
  else
  (if(v.Kind==(1:Int))then
  (some (((v.U==(0:Int))&&(v.S==([])))&&((v.N==(0:Int))||(v.N==(1:Int)))))
  else
  (if(v.Kind==(2:Int))then
  (some ((v.U==(0:Int))&&(v.S==([]))))
  else
  (if(v.Kind==(3:Int))then
  (some (((v.N==(0:Int))&&(v.U==(0:Int)))&&(decide ((v.S.length:Int)<=(40:Int)))))
  else
  (some ((v.Kind==(4:Int))&&(v.S==([])))))))

def lj(x1:Bool):Option Int:=
 if x1 then
 (some (1:Int))
 else
 (some (-1:Int))

def qT(op:Int)(x:Bool):Option Int:=
  if x then
  (some (2:Int))
  else
  (if(op==(3:Int))then
  (lj (op==(3:Int)))
  else
  (if(op==(4:Int))then
  (lj (op==(4:Int)))
  else
  (if(op==(5:Int))then
  (lj (op==(5:Int)))
  else
  (if(op==(6:Int))then
  (lj (op==(6:Int)))
  else
  (lj (op==(8:Int)))))))

def sk(op:Int):Option Int:=
  if(op==(1:Int))then
  (some (0:Int))
  else
  (if(op==(2:Int))then
  (qT op (op==(2:Int)))
  else
  (qT op (op==(7:Int))))

def tN(op:Int)(x:Bool):Option Int:=
  if x then
  (some (1:Int))
  else
  ((sk op).bind fun r=>
  some r)

def xH(op:Int):Option Int:=
  if(op==(9:Int))then
  (some (0:Int))
  else
  (if(op==(10:Int))then
  (tN op (op==(10:Int)))
  else
  (tN op (op==(11:Int))))

def gI:Nat->(List aa)->Int->Option Int
  |0,_,_=>none
  |fu+1,l,at1=>
    if((decide (at1<(0:Int)))||(decide ((l.length:Int)<=at1)))then
    (some (0:Int))
    else
    ((gV l at1).bind fun e=>
    (xH e.Op).bind fun r=>
    if(r==(0:Int))then
    (if((e.A==(-1:Int))&&(e.B==(-1:Int)))then
    (some (1:Int))
    else
    (some (0:Int)))
    else
    (if(r==(1:Int))then
    (((gI fu) l (IntKind.i64.wrap (at1-(1:Int)))).bind fun r1=>
    if(((e.A==(IntKind.i64.wrap (at1-(1:Int))))&&(e.B==(-1:Int)))&&(decide ((0:Int)<r1)))then
    (some (IntKind.i64.wrap (r1+(1:Int))))
    else
    (some (0:Int)))
    else
    (if(r==(2:Int))then
    (((gI fu) l (IntKind.i64.wrap (at1-(1:Int)))).bind fun r2=>
    if(((r2==(0:Int))||(e.B !=(IntKind.i64.wrap (at1-(1:Int)))))||(e.A !=(IntKind.i64.wrap ((IntKind.i64.wrap (at1-(1:Int)))-r2))))then
    (some (0:Int))
    else
    (((gI fu) l e.A).bind fun r3=>
    if(decide ((0:Int)<r3))then
    (some (IntKind.i64.wrap ((IntKind.i64.wrap (r3+r2))+(1:Int))))
    else
    (some (0:Int))))
    else
    (some (0:Int)))))

def wg(l:(List aa))(at1:Int):Option Int:=
 gI fq l at1

def pf(n:aa):Option Bool:=
  if((n.Op !=(1:Int))&&((n.Table !=(0:Int))||(decide ((0:Int)<(n.Kinds.length:Int)))))then
  (some false)
  else
  (if(((n.Op !=(2:Int))&&n.Left)||(((n.Op !=(2:Int))&&(n.Op !=(3:Int)))&&(decide ((0:Int)<(n.Cond.Nodes.length:Int)))))then
  (some false)
  else
  (if(((n.Op !=(4:Int))&&((decide ((0:Int)<(n.Keys.length:Int)))||(decide ((0:Int)<(n.Aggs.length:Int)))))||((n.Op !=(5:Int))&&(decide ((0:Int)<(n.Items.length:Int)))))then
  (some false)
  else
  (some ((n.Op==(8:Int))||(((n.Order.length:Int)==(0:Int))&&(n.Limit==(0:Int)))))))

def pc(n:aa)(x:Bool):Option Bool:=
  if x then
  ((pf (aa.mk (4:Int) n.A n.B n.Table n.Kinds n.Left n.Cond n.Keys n.Aggs n.Items n.Order n.Limit)).bind fun r1=>
  some r1)
  else
  ((pf n).bind fun r2=>
  some r2)

def pd(n:aa):Option Bool:=
  if(n.Op==(9:Int))then
  ((pf (aa.mk (1:Int) n.A n.B n.Table n.Kinds n.Left n.Cond n.Keys n.Aggs n.Items n.Order n.Limit)).bind fun r=>
  some r)
  else
  (if(n.Op==(10:Int))then
  (pc n (n.Op==(10:Int)))
  else
  (pc n (n.Op==(11:Int))))

def ow(n:aa):List Int->Bool->Option ((List Int)×Bool)
 |[],ok=>
  some (n.Kinds,ok)
 |e::tl,ok=>
  (ow n tl) ((ok&&(decide ((0:Int)<=e)))&&(decide (e<=(4:Int))))

def xG(n:aa):Option ((List Int)×Bool):=
 ow n n.Kinds ((((decide ((0:Int)<=n.Table))&&(decide (n.Table<(30:Int))))&&(decide ((1:Int)<=(n.Kinds.length:Int))))&&(decide ((n.Kinds.length:Int)<=(16:Int))))

def u4:List Int->Option Bool
 |[]=>
  some false
 |e::tl=>
  if(e==(4:Int))then
  (some true)
  else
  ((u4 tl))

def zX(kinds:(List Int)):Option Bool:=
 u4 kinds

def zl(nx1:aO->Option aO)(out1:aO)(n1:ap):Option aO:=
 (app out1.Nodes ([n1])).bind fun l5=>
 nx1 ({out1 with Nodes:=l5}:aO)

def zm(out:aO)(nx1:aO->Option aO)(out1:aO)(n:ap):Option aO:=
 if(decide ((0:Int)<=n.R))then
 (zl nx1 out1 (ap.mk n.Tag n.L (IntKind.i64.wrap (n.R+(out.Nodes.length:Int))) n.Col n.Value))
 else
 (zl nx1 out1 n)

def u5(nx:Nat->ap->aO->Option aO)(i:Nat)(root1:ap)(out:aO):List ap->aO->Option aO
 |[],out1=>
  if((i:Int)==(0:Int))then
  (nx (i+1) (ap.mk root1.Tag (IntKind.i64.wrap ((out1.Nodes.length:Int)-(1:Int))) root1.R root1.Col root1.Value) out1)
  else
  (nx (i+1) (ap.mk root1.Tag root1.L (IntKind.i64.wrap ((out1.Nodes.length:Int)-(1:Int))) root1.Col root1.Value) out1)
 |e1::tl1,out1=>
  if(decide ((0:Int)<=e1.L))then
  (zm out (u5 nx i root1 out tl1) out1 (ap.mk e1.Tag (IntKind.i64.wrap (e1.L+(out.Nodes.length:Int))) e1.R e1.Col e1.Value))
  else
  (zm out (u5 nx i root1 out tl1) out1 e1)

def u6:List aO->Nat->ap->aO->Option aO
 |[],i,root1,out=>
  (app out.Nodes ([root1])).bind fun l2=>
  some ({out with Nodes:=l2}:aO)
 |e::tl,i,root1,out=>
  u5 (u6 tl) i root1 out e.Nodes out

def zZ(root:ap)(l:(List aO)):Option aO:=
 u6 l 0 (ap.mk root.Tag (-1:Int) (-1:Int) root.Col root.Value) ({(⟨[]⟩:aO)with Nodes:=([]:List ap)}:aO)

def dM:Nat->io->Int->Option Int
  |0,_,_=>none
  |fu+1,l,at1=>
    if((decide (at1<(0:Int)))||(decide ((l.Nodes.length:Int)<=at1)))then
    (some (0:Int))
    else
    ((gV l.Nodes at1).bind fun e=>
    (sk e.Op).bind fun r=>
    if(r==(0:Int))then
    (if((e.A==(-1:Int))&&(e.B==(-1:Int)))then
    (some (1:Int))
    else
    (some (0:Int)))
    else
    (if(r==(1:Int))then
    (if((e.A==(IntKind.i64.wrap (at1-(1:Int))))&&(e.B==(-1:Int)))then
    (((dM fu) l e.A).bind fun r1=>
    if(decide ((0:Int)<r1))then
    (some (IntKind.i64.wrap (r1+(1:Int))))
    else
    (some (0:Int)))
    else
    (some (0:Int)))
    else
    (if(r==(2:Int))then
    (if(e.B==(IntKind.i64.wrap (at1-(1:Int))))then
    (((dM fu) l e.B).bind fun r2=>
    if((decide ((0:Int)<r2))&&(e.A==(IntKind.i64.wrap (e.B-r2))))then
    (((dM fu) l e.A).bind fun r3=>
    if(decide ((0:Int)<r3))then
    (some (IntKind.i64.wrap ((IntKind.i64.wrap (r3+r2))+(1:Int))))
    else
    (some (0:Int)))
    else
    (some (0:Int)))
    else
    (some (0:Int)))
    else
    (some (0:Int)))))

def EK(l:io)(at1:Int):Option Int:=
 dM fq l at1

def CY(tag:Int):Option Int:=
  if((decide (tag<(1:Int)))||(decide ((23:Int)<tag)))then
  (some (-1:Int))
  else
  (if(decide (tag<=(3:Int)))then
  (some (0:Int))
  else
  (if(decide (tag<=(11:Int)))then
  (some (1:Int))
  else
  (some (2:Int))))

def xK(tag:Int):Option Int:=
  if((tag==(3:Int))||((decide ((8:Int)<=tag))&&(decide (tag<=(11:Int)))))then
  (some (-1:Int))
  else
  ((CY tag).bind fun r=>
  some r)

def xL(v:am):Option Bool:=
 (jV v).bind fun r=>
 some (r&&(v.Kind !=(4:Int)))

def kH(n:ap):Option Bool:=
  if(n.Tag==(1:Int))then
  ((xL n.Value).bind fun r=>
  some (r&&(n.Col==(0:Int))))
  else
  (if(n.Tag==(2:Int))then
  (some (((decide (n.Value=(⟨(0:Int),(0:Int),(0:Int),[]⟩:am)))&&(decide ((0:Int)<=n.Col)))&&(decide (n.Col<(16:Int)))))
  else
  (some ((decide (n.Value=(⟨(0:Int),(0:Int),(0:Int),[]⟩:am)))&&(n.Col==(0:Int)))))

def jH:Nat->aO->Int->Option Int
  |0,_,_=>none
  |fu+1,e,place=>
    if((decide (place<(0:Int)))||(decide ((e.Nodes.length:Int)<=place)))then
    (some (0:Int))
    else
    ((gV e.Nodes place).bind fun e1=>
    (xK e1.Tag).bind fun r=>
    (if(!(decide (r<(0:Int))))then((kH e1).bind fun r1=>
    some (!r1))else some true).bind fun t=>
    if t then
    (some (0:Int))
    else
    (if(r==(0:Int))then
    (if((e1.L !=(-1:Int))||(e1.R !=(-1:Int)))then
    (some (0:Int))
    else
    (some (1:Int)))
    else
    (((jH fu) e (IntKind.i64.wrap (place-(1:Int)))).bind fun r2=>
    if(r2==(0:Int))then
    (some (0:Int))
    else
    (if(r==(1:Int))then
    (if((e1.L !=(IntKind.i64.wrap (place-(1:Int))))||(e1.R !=(-1:Int)))then
    (some (0:Int))
    else
    (some (IntKind.i64.wrap (r2+(1:Int)))))
    else
    (((jH fu) e (IntKind.i64.wrap ((IntKind.i64.wrap (place-(1:Int)))-r2))).bind fun r3=>
    if(((r3==(0:Int))||(e1.R !=(IntKind.i64.wrap (place-(1:Int)))))||(e1.L !=(IntKind.i64.wrap ((IntKind.i64.wrap (place-(1:Int)))-r2))))then
    (some (0:Int))
    else
    (some (IntKind.i64.wrap ((IntKind.i64.wrap (r3+r2))+(1:Int)))))))))

def EM(e:aO)(place:Int):Option Int:=
 jH fq e place

def xJ(e:aO):Option Bool:=
  (if((decide ((1:Int)<=(e.Nodes.length:Int)))&&(decide ((e.Nodes.length:Int)<=(1000:Int))))then((EM e (IntKind.i64.wrap ((e.Nodes.length:Int)-(1:Int)))).bind fun r=>
  some (r==(e.Nodes.length:Int)))else some false).bind fun t=>
  some t

def rr(k:Int)(want:Int):Option Bool:=
 some ((k==want)||(k==(0:Int)))

def tP(tag:Int)(l:Int)(r:Int):Option (Int×Bool):=
  if((tag==(4:Int))||((decide ((12:Int)<=tag))&&(decide (tag<=(15:Int)))))then
  ((rr l (2:Int)).bind fun r1=>
  (if r1 then((rr r (2:Int)).bind fun r2=>
  some r2)else some false).bind fun t=>
  some ((2:Int),t))
  else
  (if((tag==(5:Int))||(decide ((22:Int)<=tag)))then
  ((rr l (1:Int)).bind fun r3=>
  (if r3 then((rr r (1:Int)).bind fun r4=>
  some r4)else some false).bind fun t1=>
  some ((1:Int),t1))
  else
  (if((tag==(6:Int))||(tag==(7:Int)))then
  (some ((1:Int),true))
  else
  (some ((1:Int),(((l==r)||(l==(0:Int)))||(r==(0:Int)))))))

def rQ(nx2:(List Int)->Option (Int×Int))(e3:ap)(own:List Int)(e6:Int)(r1:Int):Option (Int×Int):=
  (tP e3.Tag e6 r1).bind fun r2=>
  if(!r2.2)then
  (some ((0:Int),(201:Int)))
  else
  ((app own ([r2.1])).bind fun own3=>
  nx2 own3)

def dO(kinds:(List Int)):List ap->(List Int)->Option (Int×Int)
  |[],own=>
    (gV own (IntKind.i64.wrap ((own.length:Int)-(1:Int)))).bind fun e4=>
    some (e4,(0:Int))
  |e3::tl2,own=>
    if(e3.Tag==(1:Int))then
    ((app own ([e3.Value.Kind])).bind fun own1=>
    (dO kinds tl2) own1)
    else
    (if(e3.Tag==(2:Int))then
    ((gV kinds e3.Col).bind fun e5=>
    (app own ([e5])).bind fun own2=>
    (dO kinds tl2) own2)
    else
    ((gV own e3.L).bind fun e6=>
    if(decide ((0:Int)<=e3.R))then
    ((gV own e3.R).bind fun e7=>
    rQ (dO kinds tl2) e3 own e6 e7)
    else
    (rQ (dO kinds tl2) e3 own e6 (0:Int))))

def pP(e:aO)(kinds:(List Int)):List ap->Option (Int×Int)
 |[]=>
  dO kinds e.Nodes ([]:List Int)
 |e2::tl1=>
  if((e2.Tag==(2:Int))&&(decide ((kinds.length:Int)<=e2.Col)))then
  (some ((0:Int),(2:Int)))
  else
  ((pP e kinds tl1))

def rP(e:aO)(kinds:(List Int)):List Int->Option (Int×Int)
 |[]=>
  pP e kinds e.Nodes
 |e1::tl=>
  if((decide (e1<(0:Int)))||(decide ((3:Int)<e1)))then
  (some ((0:Int),(2:Int)))
  else
  ((rP e kinds tl))

def tQ(e:aO)(kinds:(List Int)):Option (Int×Int):=
 (xJ e).bind fun r=>
 if(!r)then
 (some ((0:Int),(200:Int)))
 else
 (rP e kinds kinds)

def uz(e:aO)(kinds:(List Int)):Option Bool:=
 (tQ e kinds).bind fun r=>
 some ((r.2==(0:Int))&&((r.1==(0:Int))||(r.1==(1:Int))))

def nl(a1:eY)(kinds:(List Int)):Option (Int×Bool):=
  if(a1.Tag==(1:Int))then
  (some ((2:Int),((a1.Arg.Nodes.length:Int)==(0:Int))))
  else
  ((tQ a1.Arg kinds).bind fun r=>
  if(((decide (a1.Tag<(1:Int)))||(decide ((5:Int)<a1.Tag)))||(r.2 !=(0:Int)))then
  (some ((0:Int),false))
  else
  (if(((a1.Tag==(3:Int))&&(r.1 !=(2:Int)))&&(r.1 !=(0:Int)))then
  (some ((0:Int),false))
  else
  (if(decide ((4:Int)<=a1.Tag))then
  (some (r.1,true))
  else
  (some ((2:Int),true)))))

def jU(n:aa):Nat->Bool->Int->Option ((List Int)×Bool)
  |0,_,_=>none
  |n1+1,ok,i=>
    if(decide (i<(n.Kinds.length:Int)))then
    ((if ok then((gV n.Kinds i).bind fun e=>
    some (decide ((1:Int)<=e)))else some false).bind fun t=>
    (if t then((gV n.Kinds i).bind fun e1=>
    some (decide (e1<=(3:Int))))else some false).bind fun t1=>
    (jU n n1) t1 (IntKind.i64.wrap (i+(1:Int))))
    else
    (some (n.Kinds,((((ok&&(decide ((0:Int)<=n.Table)))&&(decide (n.Table<=(3:Int))))&&(decide ((1:Int)<=(n.Kinds.length:Int))))&&(decide ((n.Kinds.length:Int)<=(4:Int))))))

def mH(n:aa)(a1:(List Int)):Nat->(List Int)->Bool->Int->Option ((List Int)×Bool)
  |0,_,_,_=>none
  |n3+1,out3,ok1,i2=>
    if(decide (i2<(n.Aggs.length:Int)))then
    ((gV n.Aggs i2).bind fun e4=>
    (nl e4 a1).bind fun r2=>
    (app out3 ([r2.1])).bind fun out4=>
    (mH n a1 n3) out4 (ok1&&r2.2) (IntKind.i64.wrap (i2+(1:Int))))
    else
    (some (out3,(((ok1&&(decide ((n.Keys.length:Int)<=(3:Int))))&&(decide ((n.Aggs.length:Int)<=(12:Int))))&&(decide ((0:Int)<(out3.length:Int))))))

def mI(n:aa)(a1:(List Int)):Nat->(List Int)->Int->Option ((List Int)×Bool)
  |0,_,_=>none
  |n2+1,out1,i1=>
    if(decide (i1<(n.Keys.length:Int)))then
    ((gV n.Keys i1).bind fun e2=>
    if((decide (e2<(0:Int)))||(decide ((a1.length:Int)<=e2)))then
    (some ([],false))
    else
    ((gV a1 e2).bind fun e3=>
    (app out1 ([e3])).bind fun out2=>
    (mI n a1 n2) out2 (IntKind.i64.wrap (i1+(1:Int)))))
    else
    (mH n a1 fq out1 true (0:Int))

def mG(n:aa)(a1:(List Int)):Nat->(List Int)->Bool->Int->Option ((List Int)×Bool)
  |0,_,_,_=>none
  |n4+1,out5,ok2,i3=>
    if(decide (i3<(n.Items.length:Int)))then
    ((gV n.Items i3).bind fun e5=>
    (tQ e5 a1).bind fun r3=>
    (app out5 ([r3.1])).bind fun out6=>
    (mG n a1 n4) out6 (ok2&&(r3.2==(0:Int))) (IntKind.i64.wrap (i3+(1:Int))))
    else
    (some (out5,((ok2&&(decide ((1:Int)<=(out5.length:Int))))&&(decide ((out5.length:Int)<=(16:Int))))))

def qS(b:(List Int))(nx4:Nat->(List Int)->Bool->Option ((List Int)×Bool))(i4:Nat)(out7:List Int)(ok3:Bool)(k:Int):Option ((List Int)×Bool):=
  (app out7 ([k])).bind fun out8=>
  (if ok3 then((gV b (i4:Int)).bind fun e7=>
  (if(!(e7==k))then((gV b (i4:Int)).bind fun e8=>
  some (e8==(0:Int)))else some true).bind fun t3=>
  some t3)else some false).bind fun t2=>
  nx4 (i4+1) out8 t2

def li(b:(List Int)):List Int->Nat->(List Int)->Bool->Option ((List Int)×Bool)
  |[],i4,out7,ok3=>
    some (out7,ok3)
  |e6::tl,i4,out7,ok3=>
    if(e6==(0:Int))then
    ((gV b (i4:Int)).bind fun e9=>
    qS b (li b tl) i4 out7 ok3 e9)
    else
    (qS b (li b tl) i4 out7 ok3 e6)

def jT(n:aa)(a1:(List Int)):Nat->Bool->Int->Option ((List Int)×Bool)
  |0,_,_=>none
  |n5+1,ok4,i5=>
    if(decide (i5<(n.Order.length:Int)))then
    ((if ok4 then((gV n.Order i5).bind fun e10=>
    some (decide ((0:Int)<=e10.Col)))else some false).bind fun t4=>
    (if t4 then((gV n.Order i5).bind fun e11=>
    some (decide (e11.Col<(a1.length:Int))))else some false).bind fun t5=>
    (jT n a1 n5) t5 (IntKind.i64.wrap (i5+(1:Int))))
    else
    (some (a1,(((ok4&&(decide ((n.Order.length:Int)<=(3:Int))))&&(decide ((-1:Int)<=n.Limit)))&&(decide (n.Limit<=(2147483647:Int))))))

def cF(n:aa)(a1:(List Int))(b:(List Int)):Option ((List Int)×Bool):=
  if(n.Op==(1:Int))then
  (jU n fq true (0:Int))
  else
  (if(n.Op==(2:Int))then
  ((app ([]:List Int) a1).bind fun l=>
  (app l b).bind fun out=>
  (uz n.Cond out).bind fun r=>
  some (out,r))
  else
  (if(n.Op==(3:Int))then
  ((uz n.Cond a1).bind fun r1=>
  some (a1,r1))
  else
  (if(n.Op==(4:Int))then
  (mI n a1 fq ([]:List Int) (0:Int))
  else
  (if(n.Op==(5:Int))then
  (mG n a1 fq ([]:List Int) true (0:Int))
  else
  (if(n.Op==(6:Int))then
  (some (a1,true))
  else
  (if(n.Op==(7:Int))then
  (if((a1.length:Int) !=(b.length:Int))then
  (some ([],false))
  else
  (li b a1 0 ([]:List Int) true))
  else
  (jT n a1 fq true (0:Int))))))))

def lk(l:io)(at1:Int)(e1:aa)(a1:(List Int))(b1:(List Int)):Option ((List Int)×Bool):=
 (cF e1 a1 b1).bind fun r2=>
 if(((e1.Op==(8:Int))&&(at1 !=(IntKind.i64.wrap ((l.Nodes.length:Int)-(1:Int)))))||(decide ((16:Int)<(r2.1.length:Int))))then
 (some ([],false))
 else
 (some (r2.1,r2.2))

def mJ(self__:io->Int->Option ((List Int)×Bool))(l:io)(at1:Int)(e1:aa)(a1:(List Int)):Option ((List Int)×Bool):=
  if(decide ((0:Int)<=e1.B))then
  ((self__ l e1.B).bind fun r3=>
  if(!r3.2)then
  (some ([],false))
  else
  (lk l at1 e1 a1 r3.1))
  else
  (lk l at1 e1 a1 ([]))

def hT:Nat->io->Int->Option ((List Int)×Bool)
  |0,_,_=>none
  |fu+1,l,at1=>
    (EK l at1).bind fun r=>
    (if(!(r==(0:Int)))then((gV l.Nodes at1).bind fun e=>
    (pf e).bind fun r1=>
    some (!r1))else some true).bind fun t=>
    if t then
    (some ([],false))
    else
    ((gV l.Nodes at1).bind fun e1=>
    if(decide ((0:Int)<=e1.A))then
    (((hT fu) l e1.A).bind fun r4=>
    if(!r4.2)then
    (some ([],false))
    else
    (mJ (hT fu) l at1 e1 r4.1))
    else
    (mJ (hT fu) l at1 e1 ([])))

def oy(l:io)(at1:Int):Option ((List Int)×Bool):=
 hT fq l at1

def nV(nx1:aa->Option ((List Int)×Bool))(p:aa)(e2:ap):Option ((List Int)×Bool):=
 (zZ e2 ([])).bind fun r2=>
 (app p.Items ([r2])).bind fun l7=>
 nx1 ({p with Items:=l7}:aa)

def d7(nx:Nat->aa->io->Option ((List Int)×Bool))(i:Nat)(n1:aa)(l:io):List Int->aa->Option ((List Int)×Bool)
 |[],p=>
  (app l.Nodes ([(⟨(1:Int),(-1:Int),(-1:Int),(0:Int),[(1:Int),(2:Int),(3:Int)],false,(⟨[]⟩:aO),[],[],[],[],(0:Int)⟩:aa),p])).bind fun l5=>
  if((i:Int)==(0:Int))then
  (nx (i+1) (aa.mk n1.Op (IntKind.i64.wrap ((l5.length:Int)-(1:Int))) n1.B n1.Table n1.Kinds n1.Left n1.Cond n1.Keys n1.Aggs n1.Items n1.Order n1.Limit) ({l with Nodes:=l5}:io))
  else
  (nx (i+1) (aa.mk n1.Op n1.A (IntKind.i64.wrap ((l5.length:Int)-(1:Int))) n1.Table n1.Kinds n1.Left n1.Cond n1.Keys n1.Aggs n1.Items n1.Order n1.Limit) ({l with Nodes:=l5}:io))
 |e1::tl1,p=>
  if(decide ((0:Int)<e1))then
  (nV (d7 nx i n1 l tl1) p (⟨(2:Int),(0:Int),(0:Int),(IntKind.i64.wrap (e1-(1:Int))),(⟨(0:Int),(0:Int),(0:Int),[]⟩:am)⟩:ap))
  else
  (nV (d7 nx i n1 l tl1) p (⟨(1:Int),(0:Int),(0:Int),(0:Int),(⟨(0:Int),(0:Int),(0:Int),[]⟩:am)⟩:ap))

def bX:List (List Int)->Nat->aa->io->Option ((List Int)×Bool)
 |[],i,n1,l=>
  (app l.Nodes ([n1])).bind fun l2=>
  (oy ({l with Nodes:=l2}:io) (IntKind.i64.wrap ((l2.length:Int)-(1:Int)))).bind fun r=>
  some (r.1,r.2)
 |e::tl,i,n1,l=>
  (zX e).bind fun r1=>
  if r1 then
  (some ([],false))
  else
  (d7 (bX tl) i n1 l e ({(⟨(5:Int),(l.Nodes.length:Int),(-1:Int),(0:Int),[],false,(⟨[]⟩:aO),[],[],[],[],(0:Int)⟩:aa)with Items:=([]:List aO)}:aa))

def dK(n:aa)(parts:(List (List Int))):Option ((List Int)×Bool):=
 bX parts 0 n ({(⟨[]⟩:io)with Nodes:=([]:List aa)}:io)

def mF(n:aa):List eY->Nat->(List Int)->Option (List Int)
  |[],i,out1=>
    some out1
  |e::tl,i,out1=>
    if(e.Tag==(3:Int))then
    ((gV out1 (IntKind.i64.wrap ((n.Keys.length:Int)+(i:Int)))).bind fun e1=>
    (some (out1.set (IntKind.i64.wrap ((n.Keys.length:Int)+(i:Int))).toNat (4:Int))).bind fun st=>
    (mF n tl) (i+1) st)
    else
    ((mF n tl) (i+1) out1)

def pO(n:aa)(kinds:(List Int)):Option (List Int):=
 (app ([]:List Int) kinds).bind fun out=>
 mF n n.Aggs 0 out

def qP(nx1:Nat->(List Int)->Option ((List Int)×Bool))(i1:Nat)(out1:List Int)(e2:Int)(x1:Bool):Option ((List Int)×Bool):=
  if x1 then
  (if(e2==(4:Int))then
  (some ([],false))
  else
  ((app out1 ([e2])).bind fun out4=>
  nx1 (i1+1) out4))
  else
  (some ([],false))

def qQ(nx1:Nat->(List Int)->Option ((List Int)×Bool))(i1:Nat)(e1:eY)(out1:List Int)(e2:Int)(x:Bool):Option ((List Int)×Bool):=
  if x then
  (if(e2 !=(2:Int))then
  (some ([],false))
  else
  ((app out1 ([e2])).bind fun out2=>
  nx1 (i1+1) out2))
  else
  (if(e1.Tag==(3:Int))then
  (if(e2 !=(4:Int))then
  (some ([],false))
  else
  ((app out1 ([(2:Int)])).bind fun out3=>
  nx1 (i1+1) out3))
  else
  (if(e1.Tag==(4:Int))then
  (qP nx1 i1 out1 e2 (e1.Tag==(4:Int)))
  else
  (qP nx1 i1 out1 e2 (e1.Tag==(5:Int)))))

def hM(n:aa)(a1:(List Int)):List eY->Nat->(List Int)->Option ((List Int)×Bool)
  |[],i1,out1=>
    some (out1,true)
  |e1::tl1,i1,out1=>
    (gV a1 (IntKind.i64.wrap ((n.Keys.length:Int)+(i1:Int)))).bind fun e2=>
    if(decide ((0:Int)<(e1.Arg.Nodes.length:Int)))then
    (some ([],false))
    else
    (if(e1.Tag==(1:Int))then
    (qQ (hM n a1 tl1) i1 e1 out1 e2 (e1.Tag==(1:Int)))
    else
    (qQ (hM n a1 tl1) i1 e1 out1 e2 (e1.Tag==(2:Int))))

def ox(n:aa)(a1:(List Int)):List Int->Nat->(List Int)->Option ((List Int)×Bool)
  |[],i,out=>
    hM n a1 n.Aggs 0 out
  |e::tl,i,out=>
    (if(!(e !=(i:Int)))then((gV a1 (i:Int)).bind fun e3=>
    some (e3==(4:Int)))else some true).bind fun t=>
    if t then
    (some ([],false))
    else
    ((gV a1 (i:Int)).bind fun e4=>
    (app out ([e4])).bind fun out5=>
    (ox n a1 tl) (i+1) out5)

def qp(n:aa)(a1:(List Int)):Option ((List Int)×Bool):=
 if((((decide ((3:Int)<(n.Keys.length:Int)))||(decide ((12:Int)<(n.Aggs.length:Int))))||((IntKind.i64.wrap ((n.Keys.length:Int)+(n.Aggs.length:Int))) !=(a1.length:Int)))||((a1.length:Int)==(0:Int)))then
 (some ([],false))
 else
 (ox n a1 n.Keys 0 ([]:List Int))

def dx(l:(List aa))(nx:Nat->(List (List Int))->Option ((List (List Int))×Int))(i:Nat)(e:aa)(out:List (List Int))(ok:Bool)(k:(List Int)):Option ((List (List Int))×Int):=
  if((!ok)||(((e.Op==(8:Int))||(e.Op==(10:Int)))&&((i:Int) !=(IntKind.i64.wrap ((l.length:Int)-(1:Int))))))then
  (some ([],(i:Int)))
  else
  ((app out ([k])).bind fun out1=>
  nx (i+1) out1)

def d9(l:(List aa))(nx:Nat->(List (List Int))->Option ((List (List Int))×Int))(i:Nat)(e:aa)(out:List (List Int))(parts1:List (List Int)):Option ((List (List Int))×Int):=
  if(e.Op==(9:Int))then
  ((xG e).bind fun r3=>
  dx l nx i e out r3.2 r3.1)
  else
  (if(e.Op==(10:Int))then
  ((dK (aa.mk (4:Int) e.A e.B e.Table e.Kinds e.Left e.Cond e.Keys e.Aggs e.Items e.Order e.Limit) parts1).bind fun r4=>
  if r4.2 then
  ((pO e r4.1).bind fun r5=>
  dx l nx i e out r4.2 r5)
  else
  (dx l nx i e out r4.2 r4.1))
  else
  (if(e.Op==(11:Int))then
  ((gV parts1 (0:Int)).bind fun e1=>
  (qp e e1).bind fun r6=>
  (if r6.2 then((gV l e.A).bind fun e2=>
  some (e2.Op==(9:Int)))else some false).bind fun t1=>
  dx l nx i e out t1 r6.1)
  else
  (if(e.Op==(1:Int))then
  ((dK e ([])).bind fun r7=>
  dx l nx i e out r7.2 r7.1)
  else
  ((dK e parts1).bind fun r8=>
  dx l nx i e out r8.2 r8.1))))

def qR(l:(List aa))(nx:Nat->(List (List Int))->Option ((List (List Int))×Int))(i:Nat)(e:aa)(out:List (List Int))(parts:List (List Int)):Option ((List (List Int))×Int):=
  if(decide ((0:Int)<=e.B))then
  ((gV out e.B).bind fun e3=>
  (app parts ([e3])).bind fun parts2=>
  d9 l nx i e out parts2)
  else
  (d9 l nx i e out parts)

def dl(l:(List aa)):List aa->Nat->(List (List Int))->Option ((List (List Int))×Int)
  |[],i,out=>
    (wg l (IntKind.i64.wrap ((l.length:Int)-(1:Int)))).bind fun r=>
    if(r !=(l.length:Int))then
    (some ([],(IntKind.i64.wrap ((l.length:Int)-(1:Int)))))
    else
    (some (out,(-1:Int)))
  |e::tl,i,out=>
    (wg l (i:Int)).bind fun r1=>
    (if(decide ((0:Int)<r1))then((pd e).bind fun r2=>
    some r2)else some false).bind fun t=>
    if t then
    (if(decide ((0:Int)<=e.A))then
    ((gV out e.A).bind fun e4=>
    (app ([]:List (List Int)) ([e4])).bind fun parts3=>
    qR l (dl l tl) i e out parts3)
    else
    (qR l (dl l tl) i e out ([]:List (List Int))))
    else
    (dx l (dl l tl) i e out t ([]))

def sj(l:(List aa)):Option ((List (List Int))×Int):=
 if((decide ((l.length:Int)<(1:Int)))||(decide ((60:Int)<(l.length:Int))))then
 (some ([],(0:Int)))
 else
 (dl l l 0 ([]:List (List Int)))

def tU(b:(List Int)):Option af:=
 (vY (b.length:Int) (0:Int)).bind fun mk=>
 (some (pD mk b)).bind fun cp=>
 some ({(⟨(⟨(0:Int),(0:Int)⟩:me),mk⟩:af)with own:=cp}:af)

def wr(b:(List Int)):Option (aK×af):=
 (tU b).bind fun r=>
 some ((⟨(⟨(⟨(0:Int),(0:Int)⟩:me),[]⟩:af),b,false⟩:aK),r)

def ri(x:Int)(c:Int):Option Int:=
 some (IntKind.u64.wrap ((IntKind.u64.wrap (x*2^(min (Int.toNat (8:Int)) IntKind.u64.bits)))+(IntKind.u64.wrap c)))

def gc(r:af):Option Int:=
 if false then
 (some (0:Int))
 else
 (some (IntKind.i64.wrap ((r.own.length:Int)-r.place.at_)))

def fR(n:Int):Nat->Int->Int->af->Option (af×Int)
  |0,_,_,_=>none
  |n1+1,x1,x2,ob=>
    if(decide (x1<n))then
    ((gV ob.own ob.place.at_).bind fun e=>
    (ri x2 e).bind fun r2=>
    (fR n n1) (IntKind.i64.wrap (x1+(1:Int))) r2 ({ob with place:=({ob.place with at_:=(IntKind.i64.wrap (ob.place.at_+(1:Int)))}:me)}:af))
    else
    (some (ob,x2))

def nS(r:af)(n:Int)(x:Int):Option (af×Int):=
  if(r.place.why !=(0:Int))then
  (some (r,x))
  else
  (if(decide (n<(0:Int)))then
  (some (({r with place:=({r.place with why:=(2:Int)}:me)}:af),x))
  else
  ((gc r).bind fun r1=>
  if(decide (r1<n))then
  (some (({r with place:=({r.place with why:=(7:Int)}:me)}:af),x))
  else
  (fR n fq (0:Int) x r)))

def ck(r:af)(n:Int):Option (Int×af):=
 (nS r n (0:Int)).bind fun r1=>
 some (r1.2,r1.1)

def cj(r:af):Option (Int×af):=
 (ck r (1:Int)).bind fun r1=>
 some ((IntKind.u8.wrap r1.1),r1.2)

def aP(r:aK)(in1:af):Option (Int×af):=
 (cj in1).bind fun r1=>
 some ((IntKind.i64.wrap r1.1),r1.2)

def fS(r:af):Option Int:=
 if false then
 (some (1:Int))
 else
 (some r.place.why)

def dd(r:aK)(in1:af):Option Bool:=
  if(!r.bad)then
  ((fS in1).bind fun r1=>
  some (r1==(0:Int)))
  else
  (some false)

def oJ(out:List Int)(ob:af):Option ((List Int)×af):=
 some (out,ob)

def iA(r:aK)(n:Int):Nat->(List Int)->Int->af->Option ((List Int)×af)
  |0,_,_,_=>none
  |n1+1,out1,x,ob1=>
    if(decide (x<n))then
    ((dd r ob1).bind fun r1=>
    if(!r1)then
    (oJ out1 ob1)
    else
    ((aP r ob1).bind fun r2=>
    (app out1 ([r2.1])).bind fun out2=>
    (iA r n n1) out2 (IntKind.i64.wrap (x+(1:Int))) r2.2))
    else
    (oJ out1 ob1)

def lR(r:aK)(in1:af)(n:Int):Option ((List Int)×af):=
 iA r n fq ([]:List Int) (0:Int) in1

def iz(r:aK)(in1:af):Option ((List Int)×af):=
 (aP r in1).bind fun r1=>
 (lR r r1.2 r1.1).bind fun r2=>
 some (r2.1,r2.2)

def fj(r:aK)(in1:af):Option (Bool×aK×af):=
 (cj in1).bind fun r1=>
 some ((r1.1==(1:Int)),({r with bad:=(r.bad||(decide ((1:Int)<r1.1)))}:aK),r1.2)

def kX(r:af):Option (Int×af):=
 (ck r (4:Int)).bind fun r1=>
 some ((IntKind.u32.wrap r1.1),r1.2)

def iy(r:af):Option (Int×af):=
 (ck r (2:Int)).bind fun r1=>
 some ((IntKind.u16.wrap r1.1),r1.2)

def nr(t:(List Int)):Option (Int×(List Int)):=
  if((t.length:Int)==(0:Int))then
  (some ((-1:Int),t))
  else
  ((gV t (IntKind.i64.wrap ((t.length:Int)-(1:Int)))).bind fun e=>
  (dQ t 0 (IntKind.i64.wrap ((t.length:Int)-(1:Int)))).bind fun y=>
  some (e,y))

def jo(at1:Int)(b3:Int)(a1:Int)(x1:List Int)(ob1:aK):Option (Int×Int×aK×(List Int)):=
 (app x1 ([at1])).bind fun l3=>
 some (a1,b3,ob1,l3)

def lv(n:Int)(at1:Int)(b3:Int)(x:List Int)(ob:aK):Option (Int×Int×aK×(List Int)):=
  if(decide ((1:Int)<=n))then
  ((nr x).bind fun r1=>
  jo at1 b3 r1.1 r1.2 ({ob with bad:=(ob.bad||(decide (r1.1<(0:Int))))}:aK))
  else
  (jo at1 b3 (-1:Int) x ob)

def cL(r:aK)(in1:af)(t:(List Int))(n:Int)(at1:Int):Option (Int×Int×aK×(List Int)):=
  if(n==(2:Int))then
  ((nr t).bind fun r2=>
  lv n at1 r2.1 r2.2 ({r with bad:=(r.bad||(decide (r2.1<(0:Int))))}:aK))
  else
  (lv n at1 (-1:Int) t r)

def iQ(r:aK)(in1:af):Option (List Int):=
 (gc in1).bind fun r1=>
 (dQ r.all (IntKind.i64.wrap ((r.all.length:Int)-r1)) (r.all.length:Int)).bind fun y=>
 some y

def qe(out:(List Int))(c:Int):Option (List Int):=
 (app out ([c])).bind fun l1=>
 some l1

def fQ(n:Int):Nat->Int->(List Int)->af->Option (af×(List Int))
  |0,_,_,_=>none
  |n1+1,x,x1,ob=>
    if(decide (x<n))then
    ((gV ob.own ob.place.at_).bind fun e=>
    (qe x1 e).bind fun r2=>
    (fQ n n1) (IntKind.i64.wrap (x+(1:Int))) r2 ({ob with place:=({ob.place with at_:=(IntKind.i64.wrap (ob.place.at_+(1:Int)))}:me)}:af))
    else
    (some (ob,x1))

def nR(r:af)(n:Int)(out:(List Int)):Option (af×(List Int)):=
  if(r.place.why !=(0:Int))then
  (some (r,out))
  else
  (if(decide (n<(0:Int)))then
  (some (({r with place:=({r.place with why:=(2:Int)}:me)}:af),out))
  else
  ((gc r).bind fun r1=>
  if(decide (r1<n))then
  (some (({r with place:=({r.place with why:=(7:Int)}:me)}:af),out))
  else
  (fQ n fq (0:Int) out r)))

def jw(r:af)(n:Int):Option ((List Int)×af):=
 (nR r n ([]:List Int)).bind fun r1=>
 some (r1.2,r1.1)

def ge(r:aK)(in1:af)(n:Int)(e:Int):Option (aK×af):=
  if(e !=(0:Int))then
  (some (({r with bad:=true}:aK),in1))
  else
  ((jw in1 n).bind fun r1=>
  some (r,r1.2))

def uc(b:(List Int)):Option (cE×af):=
 (tU b).bind fun r=>
 some ((⟨(⟨(⟨(0:Int),(0:Int)⟩:me),[]⟩:af),(b.length:Int),false⟩:cE),r)

def dC(r:af):Option (Int×af):=
 (ck r (8:Int)).bind fun r1=>
 some (r1.1,r1.2)

def cH(t:cE)(in1:af)(is1:Bool):Option cE:=
  if t.bad then
  (some ({t with bad:=true}:cE))
  else
  ((fS in1).bind fun r=>
  some ({t with bad:=((r==(0:Int))&&(!is1))}:cE))

def ef(t:cE)(in1:af):Option Bool:=
  if(!t.bad)then
  ((fS in1).bind fun r=>
  some (r==(0:Int)))
  else
  (some false)

def kg(t:cE)(in1:af):Option (am×cE×af):=
  (cj in1).bind fun r=>
  (cH t r.2 (decide ((IntKind.i64.wrap r.1)<=(4:Int)))).bind fun r1=>
  (ef r1 r.2).bind fun r2=>
  if(!r2)then
  (some ((am.mk (IntKind.i64.wrap r.1) (⟨(0:Int),(0:Int),(0:Int),[]⟩:am).N (⟨(0:Int),(0:Int),(0:Int),[]⟩:am).U (⟨(0:Int),(0:Int),(0:Int),[]⟩:am).S),r1,r.2))
  else
  (if((IntKind.i64.wrap r.1)==(1:Int))then
  ((cj r.2).bind fun r3=>
  (ir (am.mk (IntKind.i64.wrap r.1) (IntKind.i64.wrap r3.1) (⟨(0:Int),(0:Int),(0:Int),[]⟩:am).U (⟨(0:Int),(0:Int),(0:Int),[]⟩:am).S)).bind fun r4=>
  (cH r1 r3.2 (r4==(0:Int))).bind fun r5=>
  some ((am.mk (IntKind.i64.wrap r.1) (IntKind.i64.wrap r3.1) (⟨(0:Int),(0:Int),(0:Int),[]⟩:am).U (⟨(0:Int),(0:Int),(0:Int),[]⟩:am).S),r5,r3.2))
  else
  (if((IntKind.i64.wrap r.1)==(2:Int))then
  ((dC r.2).bind fun r6=>
  (ir (am.mk (IntKind.i64.wrap r.1) (IntKind.i64.wrap r6.1) (⟨(0:Int),(0:Int),(0:Int),[]⟩:am).U (⟨(0:Int),(0:Int),(0:Int),[]⟩:am).S)).bind fun r7=>
  (cH r1 r6.2 (r7==(0:Int))).bind fun r8=>
  some ((am.mk (IntKind.i64.wrap r.1) (IntKind.i64.wrap r6.1) (⟨(0:Int),(0:Int),(0:Int),[]⟩:am).U (⟨(0:Int),(0:Int),(0:Int),[]⟩:am).S),r8,r6.2))
  else
  (if((IntKind.i64.wrap r.1)==(3:Int))then
  ((cj r.2).bind fun r9=>
  (cH r1 r9.2 (decide ((IntKind.i64.wrap r9.1)<=(40:Int)))).bind fun r10=>
  (ef r10 r9.2).bind fun r11=>
  if r11 then
  ((jw r9.2 (IntKind.i64.wrap r9.1)).bind fun r12=>
  (ir (am.mk (IntKind.i64.wrap r.1) (⟨(0:Int),(0:Int),(0:Int),[]⟩:am).N (⟨(0:Int),(0:Int),(0:Int),[]⟩:am).U (pC r12.1))).bind fun r13=>
  (cH r10 r12.2 (r13==(0:Int))).bind fun r14=>
  some ((am.mk (IntKind.i64.wrap r.1) (⟨(0:Int),(0:Int),(0:Int),[]⟩:am).N (⟨(0:Int),(0:Int),(0:Int),[]⟩:am).U (pC r12.1)),r14,r12.2))
  else
  ((ir (am.mk (IntKind.i64.wrap r.1) (⟨(0:Int),(0:Int),(0:Int),[]⟩:am).N (⟨(0:Int),(0:Int),(0:Int),[]⟩:am).U (⟨(0:Int),(0:Int),(0:Int),[]⟩:am).S)).bind fun r15=>
  (cH r10 r9.2 (r15==(0:Int))).bind fun r16=>
  some ((am.mk (IntKind.i64.wrap r.1) (⟨(0:Int),(0:Int),(0:Int),[]⟩:am).N (⟨(0:Int),(0:Int),(0:Int),[]⟩:am).U (⟨(0:Int),(0:Int),(0:Int),[]⟩:am).S),r16,r9.2)))
  else
  (if((IntKind.i64.wrap r.1)==(4:Int))then
  ((dC r.2).bind fun r17=>
  (dC r17.2).bind fun r18=>
  (ir (am.mk (IntKind.i64.wrap r.1) (IntKind.i64.wrap r17.1) r18.1 (⟨(0:Int),(0:Int),(0:Int),[]⟩:am).S)).bind fun r19=>
  (cH r1 r18.2 (r19==(0:Int))).bind fun r20=>
  some ((am.mk (IntKind.i64.wrap r.1) (IntKind.i64.wrap r17.1) r18.1 (⟨(0:Int),(0:Int),(0:Int),[]⟩:am).S),r20,r18.2))
  else
  ((ir (am.mk (IntKind.i64.wrap r.1) (⟨(0:Int),(0:Int),(0:Int),[]⟩:am).N (⟨(0:Int),(0:Int),(0:Int),[]⟩:am).U (⟨(0:Int),(0:Int),(0:Int),[]⟩:am).S)).bind fun r21=>
  (cH r1 r.2 (r21==(0:Int))).bind fun r22=>
  some ((am.mk (IntKind.i64.wrap r.1) (⟨(0:Int),(0:Int),(0:Int),[]⟩:am).N (⟨(0:Int),(0:Int),(0:Int),[]⟩:am).U (⟨(0:Int),(0:Int),(0:Int),[]⟩:am).S),r22,r.2))))))

def lw(t:cE)(in1:af)(p:am):Option (am×Int×Int):=
  if t.bad then
  (some ((⟨(0:Int),(0:Int),(0:Int),[]⟩:am),(0:Int),(160:Int)))
  else
  ((fS in1).bind fun r=>
  if(r !=(0:Int))then
  ((fS in1).bind fun r1=>
  some ((⟨(0:Int),(0:Int),(0:Int),[]⟩:am),(0:Int),r1))
  else
  ((gc in1).bind fun r2=>
  some (p,(IntKind.i64.wrap (t.all-r2)),(0:Int))))

def pY(b:(List Int)):Option (am×Int×Int):=
 (uc b).bind fun r=>
 (kg r.1 r.2).bind fun r1=>
 (lw r1.2.1 r1.2.2 r1.1).bind fun r2=>
 some (r2.1,r2.2.1,r2.2.2)

def jy(r:aK)(in1:af):Option (am×aK×af):=
 (iQ r in1).bind fun r1=>
 (pY r1).bind fun r2=>
 (ge r in1 r2.2.1 r2.2.2).bind fun r3=>
 some (r2.1,r3.1,r3.2)

def qy(tag:Int):Option Int:=
  if((tag==(1:Int))||(tag==(2:Int)))then
  (some (0:Int))
  else
  (if(decide ((12:Int)<=tag))then
  (some (2:Int))
  else
  (some (1:Int)))

def mu(r:aK)(in1:af)(t:(List Int))(at1:Int):Option (ap×aK×af×(List Int)×Int):=
  (aP r in1).bind fun r1=>
  if(((⟨r1.1,(0:Int),(0:Int),(0:Int),(⟨(0:Int),(0:Int),(0:Int),[]⟩:am)⟩:ap).Tag)==(2:Int))then
  ((aP r r1.2).bind fun r2=>
  (qy ((⟨r1.1,(0:Int),(0:Int),(0:Int),(⟨(0:Int),(0:Int),(0:Int),[]⟩:am)⟩:ap).Tag)).bind fun r3=>
  (cL r r2.2 t r3 at1).bind fun r4=>
  some ((ap.mk ({(ap.mk (⟨r1.1,(0:Int),(0:Int),(0:Int),(⟨(0:Int),(0:Int),(0:Int),[]⟩:am)⟩:ap).Tag (⟨r1.1,(0:Int),(0:Int),(0:Int),(⟨(0:Int),(0:Int),(0:Int),[]⟩:am)⟩:ap).L (⟨r1.1,(0:Int),(0:Int),(0:Int),(⟨(0:Int),(0:Int),(0:Int),[]⟩:am)⟩:ap).R r2.1 (⟨r1.1,(0:Int),(0:Int),(0:Int),(⟨(0:Int),(0:Int),(0:Int),[]⟩:am)⟩:ap).Value)with L:=r4.1}:ap).Tag ({(ap.mk (⟨r1.1,(0:Int),(0:Int),(0:Int),(⟨(0:Int),(0:Int),(0:Int),[]⟩:am)⟩:ap).Tag (⟨r1.1,(0:Int),(0:Int),(0:Int),(⟨(0:Int),(0:Int),(0:Int),[]⟩:am)⟩:ap).L (⟨r1.1,(0:Int),(0:Int),(0:Int),(⟨(0:Int),(0:Int),(0:Int),[]⟩:am)⟩:ap).R r2.1 (⟨r1.1,(0:Int),(0:Int),(0:Int),(⟨(0:Int),(0:Int),(0:Int),[]⟩:am)⟩:ap).Value)with L:=r4.1}:ap).L r4.2.1 ({(ap.mk (⟨r1.1,(0:Int),(0:Int),(0:Int),(⟨(0:Int),(0:Int),(0:Int),[]⟩:am)⟩:ap).Tag (⟨r1.1,(0:Int),(0:Int),(0:Int),(⟨(0:Int),(0:Int),(0:Int),[]⟩:am)⟩:ap).L (⟨r1.1,(0:Int),(0:Int),(0:Int),(⟨(0:Int),(0:Int),(0:Int),[]⟩:am)⟩:ap).R r2.1 (⟨r1.1,(0:Int),(0:Int),(0:Int),(⟨(0:Int),(0:Int),(0:Int),[]⟩:am)⟩:ap).Value)with L:=r4.1}:ap).Col ({(ap.mk (⟨r1.1,(0:Int),(0:Int),(0:Int),(⟨(0:Int),(0:Int),(0:Int),[]⟩:am)⟩:ap).Tag (⟨r1.1,(0:Int),(0:Int),(0:Int),(⟨(0:Int),(0:Int),(0:Int),[]⟩:am)⟩:ap).L (⟨r1.1,(0:Int),(0:Int),(0:Int),(⟨(0:Int),(0:Int),(0:Int),[]⟩:am)⟩:ap).R r2.1 (⟨r1.1,(0:Int),(0:Int),(0:Int),(⟨(0:Int),(0:Int),(0:Int),[]⟩:am)⟩:ap).Value)with L:=r4.1}:ap).Value),r4.2.2.1,r2.2,r4.2.2.2,(IntKind.i64.wrap (at1+(1:Int)))))
  else
  (if(((⟨r1.1,(0:Int),(0:Int),(0:Int),(⟨(0:Int),(0:Int),(0:Int),[]⟩:am)⟩:ap).Tag)==(1:Int))then
  ((jy r r1.2).bind fun r5=>
  (qy ((⟨r1.1,(0:Int),(0:Int),(0:Int),(⟨(0:Int),(0:Int),(0:Int),[]⟩:am)⟩:ap).Tag)).bind fun r6=>
  (cL r5.2.1 r5.2.2 t r6 at1).bind fun r7=>
  some ((ap.mk ({(ap.mk (⟨r1.1,(0:Int),(0:Int),(0:Int),(⟨(0:Int),(0:Int),(0:Int),[]⟩:am)⟩:ap).Tag (⟨r1.1,(0:Int),(0:Int),(0:Int),(⟨(0:Int),(0:Int),(0:Int),[]⟩:am)⟩:ap).L (⟨r1.1,(0:Int),(0:Int),(0:Int),(⟨(0:Int),(0:Int),(0:Int),[]⟩:am)⟩:ap).R (⟨r1.1,(0:Int),(0:Int),(0:Int),(⟨(0:Int),(0:Int),(0:Int),[]⟩:am)⟩:ap).Col r5.1)with L:=r7.1}:ap).Tag ({(ap.mk (⟨r1.1,(0:Int),(0:Int),(0:Int),(⟨(0:Int),(0:Int),(0:Int),[]⟩:am)⟩:ap).Tag (⟨r1.1,(0:Int),(0:Int),(0:Int),(⟨(0:Int),(0:Int),(0:Int),[]⟩:am)⟩:ap).L (⟨r1.1,(0:Int),(0:Int),(0:Int),(⟨(0:Int),(0:Int),(0:Int),[]⟩:am)⟩:ap).R (⟨r1.1,(0:Int),(0:Int),(0:Int),(⟨(0:Int),(0:Int),(0:Int),[]⟩:am)⟩:ap).Col r5.1)with L:=r7.1}:ap).L r7.2.1 ({(ap.mk (⟨r1.1,(0:Int),(0:Int),(0:Int),(⟨(0:Int),(0:Int),(0:Int),[]⟩:am)⟩:ap).Tag (⟨r1.1,(0:Int),(0:Int),(0:Int),(⟨(0:Int),(0:Int),(0:Int),[]⟩:am)⟩:ap).L (⟨r1.1,(0:Int),(0:Int),(0:Int),(⟨(0:Int),(0:Int),(0:Int),[]⟩:am)⟩:ap).R (⟨r1.1,(0:Int),(0:Int),(0:Int),(⟨(0:Int),(0:Int),(0:Int),[]⟩:am)⟩:ap).Col r5.1)with L:=r7.1}:ap).Col ({(ap.mk (⟨r1.1,(0:Int),(0:Int),(0:Int),(⟨(0:Int),(0:Int),(0:Int),[]⟩:am)⟩:ap).Tag (⟨r1.1,(0:Int),(0:Int),(0:Int),(⟨(0:Int),(0:Int),(0:Int),[]⟩:am)⟩:ap).L (⟨r1.1,(0:Int),(0:Int),(0:Int),(⟨(0:Int),(0:Int),(0:Int),[]⟩:am)⟩:ap).R (⟨r1.1,(0:Int),(0:Int),(0:Int),(⟨(0:Int),(0:Int),(0:Int),[]⟩:am)⟩:ap).Col r5.1)with L:=r7.1}:ap).Value),r7.2.2.1,r5.2.2,r7.2.2.2,(IntKind.i64.wrap (at1+(1:Int)))))
  else
  ((qy ((⟨r1.1,(0:Int),(0:Int),(0:Int),(⟨(0:Int),(0:Int),(0:Int),[]⟩:am)⟩:ap).Tag)).bind fun r8=>
  (cL r r1.2 t r8 at1).bind fun r9=>
  some ((ap.mk ({(⟨r1.1,(0:Int),(0:Int),(0:Int),(⟨(0:Int),(0:Int),(0:Int),[]⟩:am)⟩:ap)with L:=r9.1}:ap).Tag ({(⟨r1.1,(0:Int),(0:Int),(0:Int),(⟨(0:Int),(0:Int),(0:Int),[]⟩:am)⟩:ap)with L:=r9.1}:ap).L r9.2.1 ({(⟨r1.1,(0:Int),(0:Int),(0:Int),(⟨(0:Int),(0:Int),(0:Int),[]⟩:am)⟩:ap)with L:=r9.1}:ap).Col ({(⟨r1.1,(0:Int),(0:Int),(0:Int),(⟨(0:Int),(0:Int),(0:Int),[]⟩:am)⟩:ap)with L:=r9.1}:ap).Value),r9.2.2.1,r1.2,r9.2.2.2,(IntKind.i64.wrap (at1+(1:Int))))))

def kO(out:List ap)(x:Int)(x1:List Int)(ob:aK)(ob1:af):Option ((List ap)×aK×af×(List Int)×Int):=
 some (out,ob,ob1,x1,x)

def gi(n:Int):Nat->(List ap)->Int->Int->(List Int)->aK->af->Option ((List ap)×aK×af×(List Int)×Int)
  |0,_,_,_,_,_,_=>none
  |n1+1,out1,x2,x3,x4,ob2,ob3=>
    if(decide (x2<n))then
    ((dd ob2 ob3).bind fun r1=>
    if(!r1)then
    (kO out1 x3 x4 ob2 ob3)
    else
    ((mu ob2 ob3 x4 x3).bind fun r2=>
    (app out1 ([r2.1])).bind fun out2=>
    (gi n n1) out2 (IntKind.i64.wrap (x2+(1:Int))) r2.2.2.2.2 r2.2.2.2.1 r2.2.1 r2.2.2.1))
    else
    (kO out1 x3 x4 ob2 ob3)

def jM(r:aK)(in1:af)(n:Int)(t:(List Int))(at1:Int):Option ((List ap)×aK×af×(List Int)×Int):=
 gi n fq ([]:List ap) (0:Int) at1 t r in1

def gg(r:aK)(in1:af):Option (aO×aK×af):=
 (iy in1).bind fun r1=>
 (jM r r1.2 (IntKind.i64.wrap r1.1) ([]:List Int) (0:Int)).bind fun r2=>
 some ((⟨r2.1⟩:aO),r2.2.1,r2.2.2.1)

def pq(r:aK)(in1:af):Option (eY×aK×af):=
 (aP r in1).bind fun r1=>
 (gg r r1.2).bind fun r2=>
 some ((⟨r1.1,r2.1⟩:eY),r2.2.1,r2.2.2)

def pp(r:aK)(in1:af):Option (ku×aK×af):=
 (aP r in1).bind fun r1=>
 (fj r r1.2).bind fun r2=>
 some ((⟨r1.1,r2.1⟩:ku),r2.2.1,r2.2.2)

def lC(out:List eY)(ob:aK)(ob1:af):Option ((List eY)×aK×af):=
 some (out,ob,ob1)

def jj(n:Int):Nat->(List eY)->Int->aK->af->Option ((List eY)×aK×af)
  |0,_,_,_,_=>none
  |n1+1,out1,x,ob2,ob3=>
    if(decide (x<n))then
    ((dd ob2 ob3).bind fun r1=>
    if(!r1)then
    (lC out1 ob2 ob3)
    else
    ((pq ob2 ob3).bind fun r2=>
    (app out1 ([r2.1])).bind fun out2=>
    (jj n n1) out2 (IntKind.i64.wrap (x+(1:Int))) r2.2.1 r2.2.2))
    else
    (lC out1 ob2 ob3)

def kP(r:aK)(in1:af)(n:Int):Option ((List eY)×aK×af):=
 jj n fq ([]:List eY) (0:Int) r in1

def lp(out:List aO)(ob:aK)(ob1:af):Option ((List aO)×aK×af):=
 some (out,ob,ob1)

def iS(n:Int):Nat->(List aO)->Int->aK->af->Option ((List aO)×aK×af)
  |0,_,_,_,_=>none
  |n1+1,out1,x,ob2,ob3=>
    if(decide (x<n))then
    ((dd ob2 ob3).bind fun r1=>
    if(!r1)then
    (lp out1 ob2 ob3)
    else
    ((gg ob2 ob3).bind fun r2=>
    (app out1 ([r2.1])).bind fun out2=>
    (iS n n1) out2 (IntKind.i64.wrap (x+(1:Int))) r2.2.1 r2.2.2))
    else
    (lp out1 ob2 ob3)

def kf(r:aK)(in1:af)(n:Int):Option ((List aO)×aK×af):=
 iS n fq ([]:List aO) (0:Int) r in1

def lB(out:List ku)(ob:aK)(ob1:af):Option ((List ku)×aK×af):=
 some (out,ob,ob1)

def ji(n:Int):Nat->(List ku)->Int->aK->af->Option ((List ku)×aK×af)
  |0,_,_,_,_=>none
  |n1+1,out1,x,ob2,ob3=>
    if(decide (x<n))then
    ((dd ob2 ob3).bind fun r1=>
    if(!r1)then
    (lB out1 ob2 ob3)
    else
    ((pp ob2 ob3).bind fun r2=>
    (app out1 ([r2.1])).bind fun out2=>
    (ji n n1) out2 (IntKind.i64.wrap (x+(1:Int))) r2.2.1 r2.2.2))
    else
    (lB out1 ob2 ob3)

def kM(r:aK)(in1:af)(n:Int):Option ((List ku)×aK×af):=
 ji n fq ([]:List ku) (0:Int) r in1

def j0(r:aK)(t:(List Int))(at1:Int)(r1:Int×af)(x1:Bool):Option (aa×aK×af×(List Int)):=
  if x1 then
  ((iz r r1.2).bind fun r10=>
  (aP r r10.2).bind fun r11=>
  (kP r r11.2 r11.1).bind fun r12=>
  (cL r12.2.1 r12.2.2 t (1:Int) at1).bind fun r13=>
  some ((aa.mk (⟨r1.1,(0:Int),(0:Int),(0:Int),[],false,(⟨[]⟩:aO),[],[],[],[],(0:Int)⟩:aa).Op r13.1 r13.2.1 (⟨r1.1,(0:Int),(0:Int),(0:Int),[],false,(⟨[]⟩:aO),[],[],[],[],(0:Int)⟩:aa).Table (⟨r1.1,(0:Int),(0:Int),(0:Int),[],false,(⟨[]⟩:aO),[],[],[],[],(0:Int)⟩:aa).Kinds (⟨r1.1,(0:Int),(0:Int),(0:Int),[],false,(⟨[]⟩:aO),[],[],[],[],(0:Int)⟩:aa).Left (⟨r1.1,(0:Int),(0:Int),(0:Int),[],false,(⟨[]⟩:aO),[],[],[],[],(0:Int)⟩:aa).Cond r10.1 r12.1 (⟨r1.1,(0:Int),(0:Int),(0:Int),[],false,(⟨[]⟩:aO),[],[],[],[],(0:Int)⟩:aa).Items (⟨r1.1,(0:Int),(0:Int),(0:Int),[],false,(⟨[]⟩:aO),[],[],[],[],(0:Int)⟩:aa).Order (⟨r1.1,(0:Int),(0:Int),(0:Int),[],false,(⟨[]⟩:aO),[],[],[],[],(0:Int)⟩:aa).Limit),r13.2.2.1,r12.2.2,r13.2.2.2))
  else
  (if(((⟨r1.1,(0:Int),(0:Int),(0:Int),[],false,(⟨[]⟩:aO),[],[],[],[],(0:Int)⟩:aa).Op)==(5:Int))then
  ((aP r r1.2).bind fun r14=>
  (kf r r14.2 r14.1).bind fun r15=>
  (cL r15.2.1 r15.2.2 t (1:Int) at1).bind fun r16=>
  some ((aa.mk (⟨r1.1,(0:Int),(0:Int),(0:Int),[],false,(⟨[]⟩:aO),[],[],[],[],(0:Int)⟩:aa).Op r16.1 r16.2.1 (⟨r1.1,(0:Int),(0:Int),(0:Int),[],false,(⟨[]⟩:aO),[],[],[],[],(0:Int)⟩:aa).Table (⟨r1.1,(0:Int),(0:Int),(0:Int),[],false,(⟨[]⟩:aO),[],[],[],[],(0:Int)⟩:aa).Kinds (⟨r1.1,(0:Int),(0:Int),(0:Int),[],false,(⟨[]⟩:aO),[],[],[],[],(0:Int)⟩:aa).Left (⟨r1.1,(0:Int),(0:Int),(0:Int),[],false,(⟨[]⟩:aO),[],[],[],[],(0:Int)⟩:aa).Cond (⟨r1.1,(0:Int),(0:Int),(0:Int),[],false,(⟨[]⟩:aO),[],[],[],[],(0:Int)⟩:aa).Keys (⟨r1.1,(0:Int),(0:Int),(0:Int),[],false,(⟨[]⟩:aO),[],[],[],[],(0:Int)⟩:aa).Aggs r15.1 (⟨r1.1,(0:Int),(0:Int),(0:Int),[],false,(⟨[]⟩:aO),[],[],[],[],(0:Int)⟩:aa).Order (⟨r1.1,(0:Int),(0:Int),(0:Int),[],false,(⟨[]⟩:aO),[],[],[],[],(0:Int)⟩:aa).Limit),r16.2.2.1,r15.2.2,r16.2.2.2))
  else
  (if(((⟨r1.1,(0:Int),(0:Int),(0:Int),[],false,(⟨[]⟩:aO),[],[],[],[],(0:Int)⟩:aa).Op)==(8:Int))then
  ((aP r r1.2).bind fun r17=>
  (kM r r17.2 r17.1).bind fun r18=>
  (kX r18.2.2).bind fun r19=>
  (cL r18.2.1 r19.2 t (1:Int) at1).bind fun r20=>
  some ((aa.mk (⟨r1.1,(0:Int),(0:Int),(0:Int),[],false,(⟨[]⟩:aO),[],[],[],[],(0:Int)⟩:aa).Op r20.1 r20.2.1 (⟨r1.1,(0:Int),(0:Int),(0:Int),[],false,(⟨[]⟩:aO),[],[],[],[],(0:Int)⟩:aa).Table (⟨r1.1,(0:Int),(0:Int),(0:Int),[],false,(⟨[]⟩:aO),[],[],[],[],(0:Int)⟩:aa).Kinds (⟨r1.1,(0:Int),(0:Int),(0:Int),[],false,(⟨[]⟩:aO),[],[],[],[],(0:Int)⟩:aa).Left (⟨r1.1,(0:Int),(0:Int),(0:Int),[],false,(⟨[]⟩:aO),[],[],[],[],(0:Int)⟩:aa).Cond (⟨r1.1,(0:Int),(0:Int),(0:Int),[],false,(⟨[]⟩:aO),[],[],[],[],(0:Int)⟩:aa).Keys (⟨r1.1,(0:Int),(0:Int),(0:Int),[],false,(⟨[]⟩:aO),[],[],[],[],(0:Int)⟩:aa).Aggs (⟨r1.1,(0:Int),(0:Int),(0:Int),[],false,(⟨[]⟩:aO),[],[],[],[],(0:Int)⟩:aa).Items r18.1 (IntKind.i64.wrap ((IntKind.i64.wrap r19.1)-(1:Int)))),r20.2.2.1,r19.2,r20.2.2.2))
  else
  (if(((⟨r1.1,(0:Int),(0:Int),(0:Int),[],false,(⟨[]⟩:aO),[],[],[],[],(0:Int)⟩:aa).Op)==(7:Int))then
  ((cL r r1.2 t (2:Int) at1).bind fun r21=>
  some ((aa.mk (⟨r1.1,(0:Int),(0:Int),(0:Int),[],false,(⟨[]⟩:aO),[],[],[],[],(0:Int)⟩:aa).Op r21.1 r21.2.1 (⟨r1.1,(0:Int),(0:Int),(0:Int),[],false,(⟨[]⟩:aO),[],[],[],[],(0:Int)⟩:aa).Table (⟨r1.1,(0:Int),(0:Int),(0:Int),[],false,(⟨[]⟩:aO),[],[],[],[],(0:Int)⟩:aa).Kinds (⟨r1.1,(0:Int),(0:Int),(0:Int),[],false,(⟨[]⟩:aO),[],[],[],[],(0:Int)⟩:aa).Left (⟨r1.1,(0:Int),(0:Int),(0:Int),[],false,(⟨[]⟩:aO),[],[],[],[],(0:Int)⟩:aa).Cond (⟨r1.1,(0:Int),(0:Int),(0:Int),[],false,(⟨[]⟩:aO),[],[],[],[],(0:Int)⟩:aa).Keys (⟨r1.1,(0:Int),(0:Int),(0:Int),[],false,(⟨[]⟩:aO),[],[],[],[],(0:Int)⟩:aa).Aggs (⟨r1.1,(0:Int),(0:Int),(0:Int),[],false,(⟨[]⟩:aO),[],[],[],[],(0:Int)⟩:aa).Items (⟨r1.1,(0:Int),(0:Int),(0:Int),[],false,(⟨[]⟩:aO),[],[],[],[],(0:Int)⟩:aa).Order (⟨r1.1,(0:Int),(0:Int),(0:Int),[],false,(⟨[]⟩:aO),[],[],[],[],(0:Int)⟩:aa).Limit),r21.2.2.1,r1.2,r21.2.2.2))
  else
  ((cL r r1.2 t (1:Int) at1).bind fun r22=>
  some ((aa.mk (⟨r1.1,(0:Int),(0:Int),(0:Int),[],false,(⟨[]⟩:aO),[],[],[],[],(0:Int)⟩:aa).Op r22.1 r22.2.1 (⟨r1.1,(0:Int),(0:Int),(0:Int),[],false,(⟨[]⟩:aO),[],[],[],[],(0:Int)⟩:aa).Table (⟨r1.1,(0:Int),(0:Int),(0:Int),[],false,(⟨[]⟩:aO),[],[],[],[],(0:Int)⟩:aa).Kinds (⟨r1.1,(0:Int),(0:Int),(0:Int),[],false,(⟨[]⟩:aO),[],[],[],[],(0:Int)⟩:aa).Left (⟨r1.1,(0:Int),(0:Int),(0:Int),[],false,(⟨[]⟩:aO),[],[],[],[],(0:Int)⟩:aa).Cond (⟨r1.1,(0:Int),(0:Int),(0:Int),[],false,(⟨[]⟩:aO),[],[],[],[],(0:Int)⟩:aa).Keys (⟨r1.1,(0:Int),(0:Int),(0:Int),[],false,(⟨[]⟩:aO),[],[],[],[],(0:Int)⟩:aa).Aggs (⟨r1.1,(0:Int),(0:Int),(0:Int),[],false,(⟨[]⟩:aO),[],[],[],[],(0:Int)⟩:aa).Items (⟨r1.1,(0:Int),(0:Int),(0:Int),[],false,(⟨[]⟩:aO),[],[],[],[],(0:Int)⟩:aa).Order (⟨r1.1,(0:Int),(0:Int),(0:Int),[],false,(⟨[]⟩:aO),[],[],[],[],(0:Int)⟩:aa).Limit),r22.2.2.1,r1.2,r22.2.2.2)))))

def lP(r:aK)(t:(List Int))(at1:Int)(r1:Int×af)(x:Bool):Option (aa×aK×af×(List Int)):=
  if x then
  ((aP r r1.2).bind fun r2=>
  (iz r r2.2).bind fun r3=>
  (cL r r3.2 t (0:Int) at1).bind fun r4=>
  some ((aa.mk (⟨r1.1,(0:Int),(0:Int),(0:Int),[],false,(⟨[]⟩:aO),[],[],[],[],(0:Int)⟩:aa).Op r4.1 r4.2.1 r2.1 r3.1 (⟨r1.1,(0:Int),(0:Int),(0:Int),[],false,(⟨[]⟩:aO),[],[],[],[],(0:Int)⟩:aa).Left (⟨r1.1,(0:Int),(0:Int),(0:Int),[],false,(⟨[]⟩:aO),[],[],[],[],(0:Int)⟩:aa).Cond (⟨r1.1,(0:Int),(0:Int),(0:Int),[],false,(⟨[]⟩:aO),[],[],[],[],(0:Int)⟩:aa).Keys (⟨r1.1,(0:Int),(0:Int),(0:Int),[],false,(⟨[]⟩:aO),[],[],[],[],(0:Int)⟩:aa).Aggs (⟨r1.1,(0:Int),(0:Int),(0:Int),[],false,(⟨[]⟩:aO),[],[],[],[],(0:Int)⟩:aa).Items (⟨r1.1,(0:Int),(0:Int),(0:Int),[],false,(⟨[]⟩:aO),[],[],[],[],(0:Int)⟩:aa).Order (⟨r1.1,(0:Int),(0:Int),(0:Int),[],false,(⟨[]⟩:aO),[],[],[],[],(0:Int)⟩:aa).Limit),r4.2.2.1,r3.2,r4.2.2.2))
  else
  (if(((⟨r1.1,(0:Int),(0:Int),(0:Int),[],false,(⟨[]⟩:aO),[],[],[],[],(0:Int)⟩:aa).Op)==(2:Int))then
  ((fj r r1.2).bind fun r5=>
  (gg r5.2.1 r5.2.2).bind fun r6=>
  (cL r6.2.1 r6.2.2 t (2:Int) at1).bind fun r7=>
  some ((aa.mk (⟨r1.1,(0:Int),(0:Int),(0:Int),[],false,(⟨[]⟩:aO),[],[],[],[],(0:Int)⟩:aa).Op r7.1 r7.2.1 (⟨r1.1,(0:Int),(0:Int),(0:Int),[],false,(⟨[]⟩:aO),[],[],[],[],(0:Int)⟩:aa).Table (⟨r1.1,(0:Int),(0:Int),(0:Int),[],false,(⟨[]⟩:aO),[],[],[],[],(0:Int)⟩:aa).Kinds r5.1 r6.1 (⟨r1.1,(0:Int),(0:Int),(0:Int),[],false,(⟨[]⟩:aO),[],[],[],[],(0:Int)⟩:aa).Keys (⟨r1.1,(0:Int),(0:Int),(0:Int),[],false,(⟨[]⟩:aO),[],[],[],[],(0:Int)⟩:aa).Aggs (⟨r1.1,(0:Int),(0:Int),(0:Int),[],false,(⟨[]⟩:aO),[],[],[],[],(0:Int)⟩:aa).Items (⟨r1.1,(0:Int),(0:Int),(0:Int),[],false,(⟨[]⟩:aO),[],[],[],[],(0:Int)⟩:aa).Order (⟨r1.1,(0:Int),(0:Int),(0:Int),[],false,(⟨[]⟩:aO),[],[],[],[],(0:Int)⟩:aa).Limit),r7.2.2.1,r6.2.2,r7.2.2.2))
  else
  (if(((⟨r1.1,(0:Int),(0:Int),(0:Int),[],false,(⟨[]⟩:aO),[],[],[],[],(0:Int)⟩:aa).Op)==(3:Int))then
  ((gg r r1.2).bind fun r8=>
  (cL r8.2.1 r8.2.2 t (1:Int) at1).bind fun r9=>
  some ((aa.mk (⟨r1.1,(0:Int),(0:Int),(0:Int),[],false,(⟨[]⟩:aO),[],[],[],[],(0:Int)⟩:aa).Op r9.1 r9.2.1 (⟨r1.1,(0:Int),(0:Int),(0:Int),[],false,(⟨[]⟩:aO),[],[],[],[],(0:Int)⟩:aa).Table (⟨r1.1,(0:Int),(0:Int),(0:Int),[],false,(⟨[]⟩:aO),[],[],[],[],(0:Int)⟩:aa).Kinds (⟨r1.1,(0:Int),(0:Int),(0:Int),[],false,(⟨[]⟩:aO),[],[],[],[],(0:Int)⟩:aa).Left r8.1 (⟨r1.1,(0:Int),(0:Int),(0:Int),[],false,(⟨[]⟩:aO),[],[],[],[],(0:Int)⟩:aa).Keys (⟨r1.1,(0:Int),(0:Int),(0:Int),[],false,(⟨[]⟩:aO),[],[],[],[],(0:Int)⟩:aa).Aggs (⟨r1.1,(0:Int),(0:Int),(0:Int),[],false,(⟨[]⟩:aO),[],[],[],[],(0:Int)⟩:aa).Items (⟨r1.1,(0:Int),(0:Int),(0:Int),[],false,(⟨[]⟩:aO),[],[],[],[],(0:Int)⟩:aa).Order (⟨r1.1,(0:Int),(0:Int),(0:Int),[],false,(⟨[]⟩:aO),[],[],[],[],(0:Int)⟩:aa).Limit),r9.2.2.1,r8.2.2,r9.2.2.2))
  else
  (if(((⟨r1.1,(0:Int),(0:Int),(0:Int),[],false,(⟨[]⟩:aO),[],[],[],[],(0:Int)⟩:aa).Op)==(4:Int))then
  (j0 r t at1 r1 (((⟨r1.1,(0:Int),(0:Int),(0:Int),[],false,(⟨[]⟩:aO),[],[],[],[],(0:Int)⟩:aa).Op)==(4:Int)))
  else
  (if(((⟨r1.1,(0:Int),(0:Int),(0:Int),[],false,(⟨[]⟩:aO),[],[],[],[],(0:Int)⟩:aa).Op)==(10:Int))then
  (j0 r t at1 r1 (((⟨r1.1,(0:Int),(0:Int),(0:Int),[],false,(⟨[]⟩:aO),[],[],[],[],(0:Int)⟩:aa).Op)==(10:Int)))
  else
  (j0 r t at1 r1 (((⟨r1.1,(0:Int),(0:Int),(0:Int),[],false,(⟨[]⟩:aO),[],[],[],[],(0:Int)⟩:aa).Op)==(11:Int)))))))

def qY(r:aK)(in1:af)(t:(List Int))(at1:Int):Option (aa×aK×af×(List Int)):=
 (aP r in1).bind fun r1=>
 if(((⟨r1.1,(0:Int),(0:Int),(0:Int),[],false,(⟨[]⟩:aO),[],[],[],[],(0:Int)⟩:aa).Op)==(1:Int))then
 (lP r t at1 r1 (((⟨r1.1,(0:Int),(0:Int),(0:Int),[],false,(⟨[]⟩:aO),[],[],[],[],(0:Int)⟩:aa).Op)==(1:Int)))
 else
 (lP r t at1 r1 (((⟨r1.1,(0:Int),(0:Int),(0:Int),[],false,(⟨[]⟩:aO),[],[],[],[],(0:Int)⟩:aa).Op)==(9:Int)))

def mt(r:aK)(in1:af)(t:(List Int))(at1:Int):Option (aa×aK×af×(List Int)×Int):=
 (qY r in1 t at1).bind fun r1=>
 some (r1.1,r1.2.1,r1.2.2.1,r1.2.2.2,(IntKind.i64.wrap (at1+(1:Int))))

def kN(out:List aa)(x:Int)(x1:List Int)(ob:aK)(ob1:af):Option ((List aa)×aK×af×(List Int)×Int):=
 some (out,ob,ob1,x1,x)

def gh(n:Int):Nat->(List aa)->Int->Int->(List Int)->aK->af->Option ((List aa)×aK×af×(List Int)×Int)
  |0,_,_,_,_,_,_=>none
  |n1+1,out1,x2,x3,x4,ob2,ob3=>
    if(decide (x2<n))then
    ((dd ob2 ob3).bind fun r1=>
    if(!r1)then
    (kN out1 x3 x4 ob2 ob3)
    else
    ((mt ob2 ob3 x4 x3).bind fun r2=>
    (app out1 ([r2.1])).bind fun out2=>
    (gh n n1) out2 (IntKind.i64.wrap (x2+(1:Int))) r2.2.2.2.2 r2.2.2.2.1 r2.2.1 r2.2.2.1))
    else
    (kN out1 x3 x4 ob2 ob3)

def ma(r:aK)(in1:af)(n:Int)(t:(List Int))(at1:Int):Option ((List aa)×aK×af×(List Int)×Int):=
 gh n fq ([]:List aa) (0:Int) at1 t r in1

def n7(r:aK)(in1:af):Option (dp×aK×af):=
 (aP r in1).bind fun r1=>
 (aP r r1.2).bind fun r2=>
 (iz r r2.2).bind fun r3=>
 (aP r r3.2).bind fun r4=>
 (ma r r4.2 r4.1 ([]:List Int) (0:Int)).bind fun r5=>
 some ((dp.mk r5.1 (⟨[],r1.1,r2.1,r3.1⟩:dp).At (⟨[],r1.1,r2.1,r3.1⟩:dp).Way (⟨[],r1.1,r2.1,r3.1⟩:dp).Cols),r5.2.1,r5.2.2.1)

def ln(out:List dp)(ob:aK)(ob1:af):Option ((List dp)×aK×af):=
 some (out,ob,ob1)

def iR(n:Int):Nat->(List dp)->Int->aK->af->Option ((List dp)×aK×af)
  |0,_,_,_,_=>none
  |n1+1,out1,x,ob2,ob3=>
    if(decide (x<n))then
    ((dd ob2 ob3).bind fun r1=>
    if(!r1)then
    (ln out1 ob2 ob3)
    else
    ((n7 ob2 ob3).bind fun r2=>
    (app out1 ([r2.1])).bind fun out2=>
    (iR n n1) out2 (IntKind.i64.wrap (x+(1:Int))) r2.2.1 r2.2.2))
    else
    (ln out1 ob2 ob3)

def mQ(r:aK)(in1:af)(n:Int):Option ((List dp)×aK×af):=
 iR n fq ([]:List dp) (0:Int) r in1

def n6(r:aK)(in1:af):Option (cV×aK×af):=
 (aP r in1).bind fun r1=>
 (mQ r r1.2 r1.1).bind fun r2=>
 some ((⟨r2.1⟩:cV),r2.2.1,r2.2.2)

def jz(r:aK)(in1:af):Option Bool:=
  (dd r in1).bind fun r1=>
  if r1 then
  ((gc in1).bind fun r2=>
  some (r2==(0:Int)))
  else
  (some false)

def om(b:(List Int)):Option ((List Int)×Int):=
  if(decide ((IntKind.i64.wrap ((b.length:Int)-(4:Int)))<(0:Int)))then
  (some ([],(7:Int)))
  else
  ((dQ b 0 (IntKind.i64.wrap ((b.length:Int)-(4:Int)))).bind fun y=>
  (oU y).bind fun r=>
  (lV r).bind fun r1=>
  (ss r1 b).bind fun r2=>
  if(!r2)then
  (some ([],(130:Int)))
  else
  (some (r,(0:Int))))

def my(t:cE)(in1:af)(p:(List (List am))):Option ((List (List am))×Int×Int):=
  if t.bad then
  (some ([],(0:Int),(160:Int)))
  else
  ((fS in1).bind fun r=>
  if(r !=(0:Int))then
  ((fS in1).bind fun r1=>
  some ([],(0:Int),r1))
  else
  ((gc in1).bind fun r2=>
  some (p,(IntKind.i64.wrap (t.all-r2)),(0:Int))))

def iD(n:Int):Nat->(List am)->Int->cE->af->Option ((List am)×cE×af)
  |0,_,_,_,_=>none
  |n1+1,out,i,ob,ob1=>
    if(decide (i<n))then
    ((ef ob ob1).bind fun r=>
    if r then
    ((kg ob ob1).bind fun r1=>
    (app out ([r1.1])).bind fun out1=>
    (iD n n1) out1 (IntKind.i64.wrap (i+(1:Int))) r1.2.1 r1.2.2)
    else
    (some (out,ob,ob1)))
    else
    (some (out,ob,ob1))

def fU(t:cE)(in1:af)(n:Int):Option ((List am)×cE×af):=
 iD n fq ([]:List am) (0:Int) t in1

def pX(t:cE)(in1:af):Option ((List am)×cE×af):=
 (cj in1).bind fun r=>
 (cH t r.2 (decide ((IntKind.i64.wrap r.1)<=(16:Int)))).bind fun r1=>
 (fU r1 r.2 (IntKind.i64.wrap r.1)).bind fun r2=>
 some (r2.1,r2.2.1,r2.2.2)

def jk(n:Int):Nat->(List (List am))->Int->cE->af->Option ((List (List am))×cE×af)
  |0,_,_,_,_=>none
  |n1+1,out,i,ob,ob1=>
    if(decide (i<n))then
    ((ef ob ob1).bind fun r=>
    if r then
    ((pX ob ob1).bind fun r1=>
    (app out ([r1.1])).bind fun out1=>
    (jk n n1) out1 (IntKind.i64.wrap (i+(1:Int))) r1.2.1 r1.2.2)
    else
    (some (out,ob,ob1)))
    else
    (some (out,ob,ob1))

def gL(t:cE)(in1:af)(n:Int):Option ((List (List am))×cE×af):=
 jk n fq ([]:List (List am)) (0:Int) t in1

def py(t:cE)(in1:af):Option ((List (List am))×cE×af):=
 (iy in1).bind fun r=>
 (cH t r.2 (decide ((IntKind.i64.wrap r.1)<=(400:Int)))).bind fun r1=>
 (gL r1 r.2 (IntKind.i64.wrap r.1)).bind fun r2=>
 some (r2.1,r2.2.1,r2.2.2)

def mV(b:(List Int)):Option ((List (List am))×Int×Int):=
 (uc b).bind fun r=>
 (py r.1 r.2).bind fun r1=>
 (my r1.2.1 r1.2.2 r1.1).bind fun r2=>
 some (r2.1,r2.2.1,r2.2.2)

def kL(p:aI)(ob:aK)(ob1:af):Option (aI×aK×af):=
 some (p,ob,ob1)

def kD(r:aK)(in1:af)(kind:Int):Option (aI×aK×af):=
  (kX in1).bind fun r1=>
  (dC r1.2).bind fun r2=>
  if(kind==(2:Int))then
  ((dC r2.2).bind fun r3=>
  some ((aI.mk (⟨kind,r1.1,r2.1,(0:Int),(⟨[],false,(0:Int)⟩:bI)⟩:aI).Kind (⟨kind,r1.1,r2.1,(0:Int),(⟨[],false,(0:Int)⟩:bI)⟩:aI).Session (⟨kind,r1.1,r2.1,(0:Int),(⟨[],false,(0:Int)⟩:bI)⟩:aI).Seq r3.1 (⟨kind,r1.1,r2.1,(0:Int),(⟨[],false,(0:Int)⟩:bI)⟩:aI).Batch),r,r3.2))
  else
  ((fj r r2.2).bind fun r4=>
  if((({(⟨kind,r1.1,r2.1,(0:Int),(⟨[],false,(0:Int)⟩:bI)⟩:aI)with Batch:=({(⟨kind,r1.1,r2.1,(0:Int),(⟨[],false,(0:Int)⟩:bI)⟩:aI).Batch with End:=r4.1}:bI)}:aI).Batch).End)then
  ((dC r4.2.2).bind fun r5=>
  some (({({(⟨kind,r1.1,r2.1,(0:Int),(⟨[],false,(0:Int)⟩:bI)⟩:aI)with Batch:=({(⟨kind,r1.1,r2.1,(0:Int),(⟨[],false,(0:Int)⟩:bI)⟩:aI).Batch with End:=r4.1}:bI)}:aI)with Batch:=({({(⟨kind,r1.1,r2.1,(0:Int),(⟨[],false,(0:Int)⟩:bI)⟩:aI)with Batch:=({(⟨kind,r1.1,r2.1,(0:Int),(⟨[],false,(0:Int)⟩:bI)⟩:aI).Batch with End:=r4.1}:bI)}:aI).Batch with Count:=r5.1}:bI)}:aI),r4.2.1,r5.2))
  else
  ((dd r4.2.1 r4.2.2).bind fun r6=>
  if r6 then
  ((iQ r4.2.1 r4.2.2).bind fun r7=>
  (mV r7).bind fun r8=>
  (ge r4.2.1 r4.2.2 r8.2.1 r8.2.2).bind fun r9=>
  kL ({({(⟨kind,r1.1,r2.1,(0:Int),(⟨[],false,(0:Int)⟩:bI)⟩:aI)with Batch:=({(⟨kind,r1.1,r2.1,(0:Int),(⟨[],false,(0:Int)⟩:bI)⟩:aI).Batch with End:=r4.1}:bI)}:aI)with Batch:=({({(⟨kind,r1.1,r2.1,(0:Int),(⟨[],false,(0:Int)⟩:bI)⟩:aI)with Batch:=({(⟨kind,r1.1,r2.1,(0:Int),(⟨[],false,(0:Int)⟩:bI)⟩:aI).Batch with End:=r4.1}:bI)}:aI).Batch with Rows:=r8.1}:bI)}:aI) r9.1 r9.2)
  else
  (kL ({(⟨kind,r1.1,r2.1,(0:Int),(⟨[],false,(0:Int)⟩:bI)⟩:aI)with Batch:=({(⟨kind,r1.1,r2.1,(0:Int),(⟨[],false,(0:Int)⟩:bI)⟩:aI).Batch with End:=r4.1}:bI)}:aI) r4.2.1 r4.2.2)))

def lQ(r:aK)(in1:af):Option (bT×aK×af):=
  (aP r in1).bind fun r1=>
  (aP r r1.2).bind fun r2=>
  (aP r r2.2).bind fun r3=>
  (aP r r3.2).bind fun r4=>
  if(((⟨r1.1,r2.1,r3.1,r4.1,(0:Int),(0:Int),(⟨[]⟩:cV),(⟨(0:Int),(0:Int),(0:Int),(0:Int),(⟨[],false,(0:Int)⟩:bI)⟩:aI),(0:Int)⟩:bT).Kind)==(1:Int))then
  ((aP r r4.2).bind fun r5=>
  (n6 r r5.2).bind fun r6=>
  some ((bT.mk (⟨r1.1,r2.1,r3.1,r4.1,(0:Int),(0:Int),(⟨[]⟩:cV),(⟨(0:Int),(0:Int),(0:Int),(0:Int),(⟨[],false,(0:Int)⟩:bI)⟩:aI),(0:Int)⟩:bT).Kind (⟨r1.1,r2.1,r3.1,r4.1,(0:Int),(0:Int),(⟨[]⟩:cV),(⟨(0:Int),(0:Int),(0:Int),(0:Int),(⟨[],false,(0:Int)⟩:bI)⟩:aI),(0:Int)⟩:bT).From (⟨r1.1,r2.1,r3.1,r4.1,(0:Int),(0:Int),(⟨[]⟩:cV),(⟨(0:Int),(0:Int),(0:Int),(0:Int),(⟨[],false,(0:Int)⟩:bI)⟩:aI),(0:Int)⟩:bT).To (⟨r1.1,r2.1,r3.1,r4.1,(0:Int),(0:Int),(⟨[]⟩:cV),(⟨(0:Int),(0:Int),(0:Int),(0:Int),(⟨[],false,(0:Int)⟩:bI)⟩:aI),(0:Int)⟩:bT).Epoch (⟨r1.1,r2.1,r3.1,r4.1,(0:Int),(0:Int),(⟨[]⟩:cV),(⟨(0:Int),(0:Int),(0:Int),(0:Int),(⟨[],false,(0:Int)⟩:bI)⟩:aI),(0:Int)⟩:bT).Frag r5.1 r6.1 (⟨r1.1,r2.1,r3.1,r4.1,(0:Int),(0:Int),(⟨[]⟩:cV),(⟨(0:Int),(0:Int),(0:Int),(0:Int),(⟨[],false,(0:Int)⟩:bI)⟩:aI),(0:Int)⟩:bT).Packet (⟨r1.1,r2.1,r3.1,r4.1,(0:Int),(0:Int),(⟨[]⟩:cV),(⟨(0:Int),(0:Int),(0:Int),(0:Int),(⟨[],false,(0:Int)⟩:bI)⟩:aI),(0:Int)⟩:bT).Err),r6.2.1,r6.2.2))
  else
  (if(((⟨r1.1,r2.1,r3.1,r4.1,(0:Int),(0:Int),(⟨[]⟩:cV),(⟨(0:Int),(0:Int),(0:Int),(0:Int),(⟨[],false,(0:Int)⟩:bI)⟩:aI),(0:Int)⟩:bT).Kind)==(3:Int))then
  ((aP r r4.2).bind fun r7=>
  (kD r r7.2 (1:Int)).bind fun r8=>
  some ((bT.mk (⟨r1.1,r2.1,r3.1,r4.1,(0:Int),(0:Int),(⟨[]⟩:cV),(⟨(0:Int),(0:Int),(0:Int),(0:Int),(⟨[],false,(0:Int)⟩:bI)⟩:aI),(0:Int)⟩:bT).Kind (⟨r1.1,r2.1,r3.1,r4.1,(0:Int),(0:Int),(⟨[]⟩:cV),(⟨(0:Int),(0:Int),(0:Int),(0:Int),(⟨[],false,(0:Int)⟩:bI)⟩:aI),(0:Int)⟩:bT).From (⟨r1.1,r2.1,r3.1,r4.1,(0:Int),(0:Int),(⟨[]⟩:cV),(⟨(0:Int),(0:Int),(0:Int),(0:Int),(⟨[],false,(0:Int)⟩:bI)⟩:aI),(0:Int)⟩:bT).To (⟨r1.1,r2.1,r3.1,r4.1,(0:Int),(0:Int),(⟨[]⟩:cV),(⟨(0:Int),(0:Int),(0:Int),(0:Int),(⟨[],false,(0:Int)⟩:bI)⟩:aI),(0:Int)⟩:bT).Epoch r7.1 (⟨r1.1,r2.1,r3.1,r4.1,(0:Int),(0:Int),(⟨[]⟩:cV),(⟨(0:Int),(0:Int),(0:Int),(0:Int),(⟨[],false,(0:Int)⟩:bI)⟩:aI),(0:Int)⟩:bT).Sites (⟨r1.1,r2.1,r3.1,r4.1,(0:Int),(0:Int),(⟨[]⟩:cV),(⟨(0:Int),(0:Int),(0:Int),(0:Int),(⟨[],false,(0:Int)⟩:bI)⟩:aI),(0:Int)⟩:bT).Plan r8.1 (⟨r1.1,r2.1,r3.1,r4.1,(0:Int),(0:Int),(⟨[]⟩:cV),(⟨(0:Int),(0:Int),(0:Int),(0:Int),(⟨[],false,(0:Int)⟩:bI)⟩:aI),(0:Int)⟩:bT).Err),r8.2.1,r8.2.2))
  else
  (if(((⟨r1.1,r2.1,r3.1,r4.1,(0:Int),(0:Int),(⟨[]⟩:cV),(⟨(0:Int),(0:Int),(0:Int),(0:Int),(⟨[],false,(0:Int)⟩:bI)⟩:aI),(0:Int)⟩:bT).Kind)==(4:Int))then
  ((aP r r4.2).bind fun r9=>
  (kD r r9.2 (2:Int)).bind fun r10=>
  some ((bT.mk (⟨r1.1,r2.1,r3.1,r4.1,(0:Int),(0:Int),(⟨[]⟩:cV),(⟨(0:Int),(0:Int),(0:Int),(0:Int),(⟨[],false,(0:Int)⟩:bI)⟩:aI),(0:Int)⟩:bT).Kind (⟨r1.1,r2.1,r3.1,r4.1,(0:Int),(0:Int),(⟨[]⟩:cV),(⟨(0:Int),(0:Int),(0:Int),(0:Int),(⟨[],false,(0:Int)⟩:bI)⟩:aI),(0:Int)⟩:bT).From (⟨r1.1,r2.1,r3.1,r4.1,(0:Int),(0:Int),(⟨[]⟩:cV),(⟨(0:Int),(0:Int),(0:Int),(0:Int),(⟨[],false,(0:Int)⟩:bI)⟩:aI),(0:Int)⟩:bT).To (⟨r1.1,r2.1,r3.1,r4.1,(0:Int),(0:Int),(⟨[]⟩:cV),(⟨(0:Int),(0:Int),(0:Int),(0:Int),(⟨[],false,(0:Int)⟩:bI)⟩:aI),(0:Int)⟩:bT).Epoch r9.1 (⟨r1.1,r2.1,r3.1,r4.1,(0:Int),(0:Int),(⟨[]⟩:cV),(⟨(0:Int),(0:Int),(0:Int),(0:Int),(⟨[],false,(0:Int)⟩:bI)⟩:aI),(0:Int)⟩:bT).Sites (⟨r1.1,r2.1,r3.1,r4.1,(0:Int),(0:Int),(⟨[]⟩:cV),(⟨(0:Int),(0:Int),(0:Int),(0:Int),(⟨[],false,(0:Int)⟩:bI)⟩:aI),(0:Int)⟩:bT).Plan r10.1 (⟨r1.1,r2.1,r3.1,r4.1,(0:Int),(0:Int),(⟨[]⟩:cV),(⟨(0:Int),(0:Int),(0:Int),(0:Int),(⟨[],false,(0:Int)⟩:bI)⟩:aI),(0:Int)⟩:bT).Err),r10.2.1,r10.2.2))
  else
  (if(((⟨r1.1,r2.1,r3.1,r4.1,(0:Int),(0:Int),(⟨[]⟩:cV),(⟨(0:Int),(0:Int),(0:Int),(0:Int),(⟨[],false,(0:Int)⟩:bI)⟩:aI),(0:Int)⟩:bT).Kind)==(5:Int))then
  ((fj r r4.2).bind fun r11=>
  if r11.1 then
  (some ((bT.mk (⟨r1.1,r2.1,r3.1,r4.1,(0:Int),(0:Int),(⟨[]⟩:cV),(⟨(0:Int),(0:Int),(0:Int),(0:Int),(⟨[],false,(0:Int)⟩:bI)⟩:aI),(0:Int)⟩:bT).Kind (⟨r1.1,r2.1,r3.1,r4.1,(0:Int),(0:Int),(⟨[]⟩:cV),(⟨(0:Int),(0:Int),(0:Int),(0:Int),(⟨[],false,(0:Int)⟩:bI)⟩:aI),(0:Int)⟩:bT).From (⟨r1.1,r2.1,r3.1,r4.1,(0:Int),(0:Int),(⟨[]⟩:cV),(⟨(0:Int),(0:Int),(0:Int),(0:Int),(⟨[],false,(0:Int)⟩:bI)⟩:aI),(0:Int)⟩:bT).To (⟨r1.1,r2.1,r3.1,r4.1,(0:Int),(0:Int),(⟨[]⟩:cV),(⟨(0:Int),(0:Int),(0:Int),(0:Int),(⟨[],false,(0:Int)⟩:bI)⟩:aI),(0:Int)⟩:bT).Epoch (⟨r1.1,r2.1,r3.1,r4.1,(0:Int),(0:Int),(⟨[]⟩:cV),(⟨(0:Int),(0:Int),(0:Int),(0:Int),(⟨[],false,(0:Int)⟩:bI)⟩:aI),(0:Int)⟩:bT).Frag (⟨r1.1,r2.1,r3.1,r4.1,(0:Int),(0:Int),(⟨[]⟩:cV),(⟨(0:Int),(0:Int),(0:Int),(0:Int),(⟨[],false,(0:Int)⟩:bI)⟩:aI),(0:Int)⟩:bT).Sites (⟨r1.1,r2.1,r3.1,r4.1,(0:Int),(0:Int),(⟨[]⟩:cV),(⟨(0:Int),(0:Int),(0:Int),(0:Int),(⟨[],false,(0:Int)⟩:bI)⟩:aI),(0:Int)⟩:bT).Plan (⟨r1.1,r2.1,r3.1,r4.1,(0:Int),(0:Int),(⟨[]⟩:cV),(⟨(0:Int),(0:Int),(0:Int),(0:Int),(⟨[],false,(0:Int)⟩:bI)⟩:aI),(0:Int)⟩:bT).Packet (300:Int)),r11.2.1,r11.2.2))
  else
  (some ((bT.mk (⟨r1.1,r2.1,r3.1,r4.1,(0:Int),(0:Int),(⟨[]⟩:cV),(⟨(0:Int),(0:Int),(0:Int),(0:Int),(⟨[],false,(0:Int)⟩:bI)⟩:aI),(0:Int)⟩:bT).Kind (⟨r1.1,r2.1,r3.1,r4.1,(0:Int),(0:Int),(⟨[]⟩:cV),(⟨(0:Int),(0:Int),(0:Int),(0:Int),(⟨[],false,(0:Int)⟩:bI)⟩:aI),(0:Int)⟩:bT).From (⟨r1.1,r2.1,r3.1,r4.1,(0:Int),(0:Int),(⟨[]⟩:cV),(⟨(0:Int),(0:Int),(0:Int),(0:Int),(⟨[],false,(0:Int)⟩:bI)⟩:aI),(0:Int)⟩:bT).To (⟨r1.1,r2.1,r3.1,r4.1,(0:Int),(0:Int),(⟨[]⟩:cV),(⟨(0:Int),(0:Int),(0:Int),(0:Int),(⟨[],false,(0:Int)⟩:bI)⟩:aI),(0:Int)⟩:bT).Epoch (⟨r1.1,r2.1,r3.1,r4.1,(0:Int),(0:Int),(⟨[]⟩:cV),(⟨(0:Int),(0:Int),(0:Int),(0:Int),(⟨[],false,(0:Int)⟩:bI)⟩:aI),(0:Int)⟩:bT).Frag (⟨r1.1,r2.1,r3.1,r4.1,(0:Int),(0:Int),(⟨[]⟩:cV),(⟨(0:Int),(0:Int),(0:Int),(0:Int),(⟨[],false,(0:Int)⟩:bI)⟩:aI),(0:Int)⟩:bT).Sites (⟨r1.1,r2.1,r3.1,r4.1,(0:Int),(0:Int),(⟨[]⟩:cV),(⟨(0:Int),(0:Int),(0:Int),(0:Int),(⟨[],false,(0:Int)⟩:bI)⟩:aI),(0:Int)⟩:bT).Plan (⟨r1.1,r2.1,r3.1,r4.1,(0:Int),(0:Int),(⟨[]⟩:cV),(⟨(0:Int),(0:Int),(0:Int),(0:Int),(⟨[],false,(0:Int)⟩:bI)⟩:aI),(0:Int)⟩:bT).Packet (140:Int)),r11.2.1,r11.2.2)))
  else
  (some ((⟨r1.1,r2.1,r3.1,r4.1,(0:Int),(0:Int),(⟨[]⟩:cV),(⟨(0:Int),(0:Int),(0:Int),(0:Int),(⟨[],false,(0:Int)⟩:bI)⟩:aI),(0:Int)⟩:bT),r,r4.2)))))

def jN(b:(List Int)):Option (bT×Int):=
  (om b).bind fun r=>
  if(r.2 !=(0:Int))then
  (some ((⟨(0:Int),(0:Int),(0:Int),(0:Int),(0:Int),(0:Int),(⟨[]⟩:cV),(⟨(0:Int),(0:Int),(0:Int),(0:Int),(⟨[],false,(0:Int)⟩:bI)⟩:aI),(0:Int)⟩:bT),r.2))
  else
  ((wr r.1).bind fun r1=>
  (lQ r1.1 r1.2).bind fun r2=>
  (jz r2.2.1 r2.2.2).bind fun r3=>
  (if(!(!r3))then((m3 r2.1).bind fun r4=>
  some (!r4))else some true).bind fun t=>
  if(t||(decide ((20000:Int)<(b.length:Int))))then
  (some ((⟨(0:Int),(0:Int),(0:Int),(0:Int),(0:Int),(0:Int),(⟨[]⟩:cV),(⟨(0:Int),(0:Int),(0:Int),(0:Int),(⟨[],false,(0:Int)⟩:bI)⟩:aI),(0:Int)⟩:bT),(331:Int)))
  else
  (some (r2.1,(0:Int))))

def pm(m:bT)(at1:Int)(by1:Int):Option Bool:=
  (xZ).bind fun r=>
  if(!r)then
  (some false)
  else
  ((tW m).bind fun r1=>
  if r1 then
  (some true)
  else
  ((pr m).bind fun r2=>
  if(r2.2 !=(0:Int))then
  (some ((r2.1.length:Int)==(0:Int)))
  else
  ((nz (r2.1.length:Int)).bind fun _=>
  (app ([]:List Int) r2.1).bind fun c1=>
  (gV c1 (((max at1 (0:Int))).tmod (r2.1.length:Int))).bind fun e=>
  (some (c1.set (((max at1 (0:Int))).tmod (r2.1.length:Int)).toNat (oV .xor .u8 e (max by1 (1:Int))))).bind fun st=>
  (jN st).bind fun r3=>
  if(r3.2 !=(130:Int))then
  (some false)
  else
  ((dQ r2.1 0 (IntKind.i64.wrap ((r2.1.length:Int)-(4:Int)))).bind fun y=>
  (app ([]:List Int) y).bind fun l3=>
  (app l3 ([(0:Int)])).bind fun l5=>
  (lV l5).bind fun r4=>
  (jN r4).bind fun r5=>
  if(r5.2 !=(331:Int))then
  (some false)
  else
  ((nz (y.length:Int)).bind fun _=>
  (dQ y 0 (((((max at1 (0:Int))).tmod (r2.1.length:Int))).tmod (y.length:Int))).bind fun y1=>
  (app ([]:List Int) y1).bind fun l9=>
  (lV l9).bind fun r6=>
  (jN r6).bind fun r7=>
  some (r7.2==(331:Int)))))))

end Go.Proofs.YtdohlidddcgfjaaGreat

