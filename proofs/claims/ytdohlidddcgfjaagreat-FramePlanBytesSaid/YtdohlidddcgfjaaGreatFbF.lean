/- bR of this claim: F. -/
import Derived.Test.YtdohlidddcgfjaaGreatFbD
import Derived.Test.YtdohlidddcgfjaaGreatFbV4
set_option linter.all false
namespace Go.Proofs.YtdohlidddcgfjaaGreat
open Go

def tq(nx1:Int->(List Int)->Option (List Int))(n2:Int):Nat->Int->(List Int)->Option (List Int)
  |0,_,_=>none
  |n4+1,x,out2=>
    if(decide (x<n2))then
    ((ga out2 n2).bind fun e4=>
    (ga out2 x).bind fun e5=>
    (ga out2 (IntKind.i64.wrap (n2+x))).bind fun e6=>
    (some (out2.set (IntKind.i64.wrap (n2+x)).toNat (qh .xor .u32 e4 e5))).bind fun ar3=>
    (tq nx1 n2 n4) (IntKind.i64.wrap (x+(1:Int))) ar3)
    else
    (nx1 (IntKind.i64.wrap (n2*(2:Int))) out2)

def qm:Nat->Int->(List Int)->Option (List Int)
 |0,_,_=>none
 |n3+1,n2,out1=>
  if(decide (n2<(256:Int)))then
  (tq (qm n3) n2 eI (0:Int) out1)
  else
  (some out1)

def qn:Nat->Int->(List Int)->Option (List Int)
  |0,_,_=>none
  |n1+1,n,out=>
    if(decide ((0:Int)<n))then
    ((ga out (IntKind.i64.wrap ((2:Int)*n))).bind fun e1=>
    (ga out n).bind fun e2=>
    (some (out.set n.toNat ((e1).fdiv (2^(min (Int.toNat (1:Int)) IntKind.u32.bits))))).bind fun ar1=>
    if((qh .and .u32 e1 (1:Int))==(1:Int))then
    ((ga ar1 n).bind fun e3=>
    (some (ar1.set n.toNat (qh .xor .u32 e3 (2197175160:Int)))).bind fun ar2=>
    (qn n1) (IntKind.i64.wrap ((n).tdiv (2:Int))) ar2)
    else
    ((qn n1) (IntKind.i64.wrap ((n).tdiv (2:Int))) ar1))
    else
    (qm eI (2:Int) out)

def C6:Option (List Int):=
 (ga (List.replicate 256 (0:Int)) (128:Int)).bind fun e=>
 (some ((List.replicate 256 (0:Int)).set (128:Int).toNat (2197175160:Int))).bind fun ar=>
 qn eI (64:Int) ar

def zC(register:Int)(AV:(List Int))(c:Int):Option Int:=
 (ga AV (qh .xor .u8 (IntKind.u8.wrap register) c)).bind fun e=>
 some (qh .xor .u32 ((register).fdiv (2^(min (Int.toNat (8:Int)) IntKind.u32.bits))) e)

def tt(r:(List Int)):List Int->Int->Option Int
 |[],register=>
  some (qh .xor .u32 (if IntKind.u32.signed then -1 else IntKind.u32.max) register)
 |e::tl,register=>
  (zC register r e).bind fun r1=>
  (tt r tl) r1

def C7(b:(List Int)):Option Int:=
 (C6).bind fun r=>
 tt r b (4294967295:Int)

def vp(b:(List Int)):Option (List Int):=
 (jb ([]:List Int) b).bind fun x=>
 some x

def sh:Nat->(List Int)->Int->Option (List Int)
 |0,out,n=>
  some out
 |k1+1,out,n=>
  (jb out ([(IntKind.u8.wrap n)])).bind fun out1=>
  (sh k1) out1 ((n).fdiv (2^(min (Int.toNat (8:Int)) IntKind.u32.bits)))

def AX(b:(List Int)):Option (List Int):=
 (C7 b).bind fun r=>
 (vp b).bind fun r1=>
 sh 4 r1 r

def pK(n:Int):Option Bool:=
 some ((decide ((0:Int)<=n))&&(decide (n<=(8:Int))))

def dl(s2:(List (List ap)))(eq:((List ap)->(List ap)->Option Bool)):List (List ap)->Nat->Option Bool
 |[],i=>
  some true
 |e::tl,i=>
  (ga s2 (i:Int)).bind fun e1=>
  (eq e e1).bind fun r=>
  if(!r)then
  (some false)
  else
  ((dl s2 eq tl) (i+1))

def dC(s1:(List (List ap)))(s2:(List (List ap)))(eq:((List ap)->(List ap)->Option Bool)):Option Bool:=
 if((s1.length:Int) !=(s2.length:Int))then
 (some false)
 else
 (dl s2 eq s1 0)

def gq(s2:(List ap)):List ap->Nat->Option Bool
 |[],i=>
  some true
 |e::tl,i=>
  (ga s2 (i:Int)).bind fun e1=>
  if(!decide (e=e1))then
  (some false)
  else
  ((gq s2 tl) (i+1))

def ig(s1:(List ap))(s2:(List ap)):Option Bool:=
 if((s1.length:Int) !=(s2.length:Int))then
 (some false)
 else
 (gq s2 s1 0)

def q6(p:(List ap))(y:(List ap)):Option Bool:=
 (ig p y).bind fun r=>
 some r

def sW(a1:kW)(b:kW):Option Bool:=
 (dC a1.Batch.Rows b.Batch.Rows q6).bind fun r=>
 some (((((((a1.Kind==b.Kind)&&(a1.Session==b.Session))&&(a1.Seq==b.Seq))&&(a1.Limit==b.Limit))&&(a1.Batch.End==b.Batch.End))&&(a1.Batch.Count==b.Batch.Count))&&r)

def kZ(s2:(List Int)):List Int->Nat->Option Bool
 |[],i=>
  some true
 |e::tl,i=>
  (ga s2 (i:Int)).bind fun e1=>
  if(e !=e1)then
  (some false)
  else
  ((kZ s2 tl) (i+1))

def kh(s1:(List Int))(s2:(List Int)):Option Bool:=
 if((s1.length:Int) !=(s2.length:Int))then
 (some false)
 else
 (kZ s2 s1 0)

def g9(s2:(List j3)):List j3->Nat->Option Bool
 |[],i=>
  some true
 |e::tl,i=>
  (ga s2 (i:Int)).bind fun e1=>
  if(!decide (e=e1))then
  (some false)
  else
  ((g9 s2 tl) (i+1))

def lN(s1:(List j3))(s2:(List j3)):Option Bool:=
 if((s1.length:Int) !=(s2.length:Int))then
 (some false)
 else
 (g9 s2 s1 0)

def fR(s2:(List am)):List am->Nat->Option Bool
 |[],i=>
  some true
 |e::tl,i=>
  (ga s2 (i:Int)).bind fun e1=>
  if(!decide (e=e1))then
  (some false)
  else
  ((fR s2 tl) (i+1))

def ki(s1:(List am))(s2:(List am)):Option Bool:=
 if((s1.length:Int) !=(s2.length:Int))then
 (some false)
 else
 (fR s2 s1 0)

def vN(a1:aM)(b:aM):Option Bool:=
 (ki a1.Nodes b.Nodes).bind fun r=>
 some r

def sm(p:fj)(q:fj):Option Bool:=
  (if(p.Tag==q.Tag)then((vN p.Arg q.Arg).bind fun r=>
  some r)else some false).bind fun t=>
  some t

def dm(s2:(List fj))(eq:(fj->fj->Option Bool)):List fj->Nat->Option Bool
 |[],i=>
  some true
 |e::tl,i=>
  (ga s2 (i:Int)).bind fun e1=>
  (eq e e1).bind fun r=>
  if(!r)then
  (some false)
  else
  ((dm s2 eq tl) (i+1))

def fF(s1:(List fj))(s2:(List fj))(eq:(fj->fj->Option Bool)):Option Bool:=
 if((s1.length:Int) !=(s2.length:Int))then
 (some false)
 else
 (dm s2 eq s1 0)

def c9(s2:(List aM))(eq:(aM->aM->Option Bool)):List aM->Nat->Option Bool
 |[],i=>
  some true
 |e::tl,i=>
  (ga s2 (i:Int)).bind fun e1=>
  (eq e e1).bind fun r=>
  if(!r)then
  (some false)
  else
  ((c9 s2 eq tl) (i+1))

def eN(s1:(List aM))(s2:(List aM))(eq:(aM->aM->Option Bool)):Option Bool:=
 if((s1.length:Int) !=(s2.length:Int))then
 (some false)
 else
 (c9 s2 eq s1 0)

def rC(p:aa)(y:aa):Option Bool:=
  (if((((((p.Op==y.Op)&&(p.A==y.A))&&(p.B==y.B))&&(p.Table==y.Table))&&(p.Left==y.Left))&&(p.Limit==y.Limit))then((kh p.Kinds y.Kinds).bind fun r=>
  some r)else some false).bind fun t=>
  (if t then((kh p.Keys y.Keys).bind fun r1=>
  some r1)else some false).bind fun t1=>
  (if t1 then((lN p.Order y.Order).bind fun r2=>
  some r2)else some false).bind fun t2=>
  (if t2 then((vN p.Cond y.Cond).bind fun r3=>
  some r3)else some false).bind fun t3=>
  (if t3 then((fF p.Aggs y.Aggs sm).bind fun r4=>
  some r4)else some false).bind fun t4=>
  (if t4 then((eN p.Items y.Items vN).bind fun r5=>
  some r5)else some false).bind fun t5=>
  some t5

def c8(s2:(List dE))(eq:(dE->dE->Option Bool)):List dE->Nat->Option Bool
 |[],i=>
  some true
 |e::tl,i=>
  (ga s2 (i:Int)).bind fun e1=>
  (eq e e1).bind fun r=>
  if(!r)then
  (some false)
  else
  ((c8 s2 eq tl) (i+1))

def eM(s1:(List dE))(s2:(List dE))(eq:(dE->dE->Option Bool)):Option Bool:=
 if((s1.length:Int) !=(s2.length:Int))then
 (some false)
 else
 (c8 s2 eq s1 0)

def cP(s2:(List aa))(eq:(aa->aa->Option Bool)):List aa->Nat->Option Bool
 |[],i=>
  some true
 |e::tl,i=>
  (ga s2 (i:Int)).bind fun e1=>
  (eq e e1).bind fun r=>
  if(!r)then
  (some false)
  else
  ((cP s2 eq tl) (i+1))

def ef(s1:(List aa))(s2:(List aa))(eq:(aa->aa->Option Bool)):Option Bool:=
 if((s1.length:Int) !=(s2.length:Int))then
 (some false)
 else
 (cP s2 eq s1 0)

def uU(node:(aa->aa->Option Bool))(p:dE)(y:dE):Option Bool:=
  (if((p.At==y.At)&&(p.Way==y.Way))then((kh p.Cols y.Cols).bind fun r=>
  some r)else some false).bind fun t=>
  (if t then((ef p.Nodes y.Nodes node).bind fun r1=>
  some r1)else some false).bind fun t1=>
  some t1

def Do(a1:iu)(b:iu):Option Bool:=
 (eM a1.Frags b.Frags (uU rC)).bind fun r=>
 some r

def q7(a1:oY)(b:oY):Option Bool:=
  (if((decide (([a1.Kind,a1.From,a1.To,a1.Epoch,a1.Frag,a1.Sites])=([b.Kind,b.From,b.To,b.Epoch,b.Frag,b.Sites])))&&(a1.Err==b.Err))then((sW a1.Packet b.Packet).bind fun r=>
  some r)else some false).bind fun t=>
  (if t then((Do a1.Plan b.Plan).bind fun r1=>
  some r1)else some false).bind fun t1=>
  some t1

def q5(m:oY)(x:Bool):Option Bool:=
  if x then
  ((q7 (oY.mk (0:Int) (0:Int) (0:Int) (0:Int) (0:Int) m.Sites m.Plan (⟨(0:Int),(0:Int),(0:Int),(0:Int),(⟨[],false,(0:Int)⟩:mZ)⟩:kW) m.Err) (⟨(0:Int),(0:Int),(0:Int),(0:Int),(0:Int),(0:Int),(⟨[]⟩:iu),(⟨(0:Int),(0:Int),(0:Int),(0:Int),(⟨[],false,(0:Int)⟩:mZ)⟩:kW),(0:Int)⟩:oY)).bind fun r1=>
  some r1)
  else
  (if(m.Kind==(5:Int))then
  ((q7 (oY.mk (0:Int) (0:Int) (0:Int) (0:Int) m.Frag m.Sites m.Plan m.Packet (0:Int)) (⟨(0:Int),(0:Int),(0:Int),(0:Int),(0:Int),(0:Int),(⟨[]⟩:iu),(⟨(0:Int),(0:Int),(0:Int),(0:Int),(⟨[],false,(0:Int)⟩:mZ)⟩:kW),(0:Int)⟩:oY)).bind fun r2=>
  some r2)
  else
  ((q7 (oY.mk (0:Int) (0:Int) (0:Int) (0:Int) m.Frag m.Sites m.Plan m.Packet m.Err) (⟨(0:Int),(0:Int),(0:Int),(0:Int),(0:Int),(0:Int),(⟨[]⟩:iu),(⟨(0:Int),(0:Int),(0:Int),(0:Int),(⟨[],false,(0:Int)⟩:mZ)⟩:kW),(0:Int)⟩:oY)).bind fun r3=>
  some r3))

def zK(m:oY):Option Bool:=
  if(m.Kind==(1:Int))then
  ((q7 (oY.mk (0:Int) (0:Int) (0:Int) (0:Int) m.Frag (0:Int) (⟨[]⟩:iu) m.Packet m.Err) (⟨(0:Int),(0:Int),(0:Int),(0:Int),(0:Int),(0:Int),(⟨[]⟩:iu),(⟨(0:Int),(0:Int),(0:Int),(0:Int),(⟨[],false,(0:Int)⟩:mZ)⟩:kW),(0:Int)⟩:oY)).bind fun r=>
  some r)
  else
  (if(m.Kind==(3:Int))then
  (q5 m (m.Kind==(3:Int)))
  else
  (q5 m (m.Kind==(4:Int))))

def oS(c:Int):Option Bool:=
 some ((decide (c<(0:Int)))||(decide ((16:Int)<=c)))

def eK(f:(Int->Option Bool)):List Int->Nat->Option Int
 |[],i=>
  some (-1:Int)
 |e::tl,i=>
  (f e).bind fun r=>
  if r then
  (some (i:Int))
  else
  ((eK f tl) (i+1))

def kD(ae:(List Int))(f:(Int->Option Bool)):Option Int:=
 eK f ae 0

def dR(ae:(List Int))(f:(Int->Option Bool)):Option Bool:=
 (kD ae f).bind fun r=>
 some (decide ((0:Int)<=r))

def m6(k:Int):Option Bool:=
 some ((decide (k<(1:Int)))||(decide ((3:Int)<k)))

def iK(l:ai):Option (Bool×ai):=
 (dR ((({l with result:=l.n.Kinds}:ai).n).Kinds) m6).bind fun r=>
 some ((((((!r)&&(decide ((0:Int)<=((({l with result:=l.n.Kinds}:ai).n).Table))))&&(decide (((({l with result:=l.n.Kinds}:ai).n).Table)<(4:Int))))&&(decide ((0:Int)<(((({l with result:=l.n.Kinds}:ai).n).Kinds).length:Int))))&&(decide ((((({l with result:=l.n.Kinds}:ai).n).Kinds).length:Int)<=(4:Int)))),({l with result:=l.n.Kinds}:ai))

def mp(k:Int):Option Bool:=
 some ((decide (k<(0:Int)))||(decide ((4:Int)<k)))

def gW(l:ai):Option (Bool×ai):=
 (dR ((({l with result:=l.n.Kinds}:ai).n).Kinds) mp).bind fun r=>
 some ((((((!r)&&(decide ((0:Int)<=((({l with result:=l.n.Kinds}:ai).n).Table))))&&(decide (((({l with result:=l.n.Kinds}:ai).n).Table)<(30:Int))))&&(decide ((0:Int)<(((({l with result:=l.n.Kinds}:ai).n).Kinds).length:Int))))&&(decide ((((({l with result:=l.n.Kinds}:ai).n).Kinds).length:Int)<=(16:Int)))),({l with result:=l.n.Kinds}:ai))

def lB(ae:List Int):Option (List Int):=
 some ae

def lC(n:Int):Option (List Int):=
  if(decide ((0:Int)<(IntKind.i64.wrap (n-(IntKind.i64.wrap ((0:Int)-(0:Int)))))))then
  ((VW (IntKind.i64.wrap (n-(IntKind.i64.wrap ((0:Int)-(0:Int)))))).bind fun _=>
  (tn (IntKind.i64.wrap (n-(IntKind.i64.wrap ((0:Int)-(0:Int))))) (0:Int)).bind fun mk=>
  (dz mk 0 (0:Int)).bind fun y=>
  lB y)
  else
  (lB ([]:List Int))

def kQ(n:Int):Option (List Int):=
 if(decide (n<(0:Int)))then
 (none)
 else
 (lC n)

def iy:List (List Int)->(List Int)->Option (List Int)
 |[],newslice=>
  some newslice
 |e1::tl1,newslice=>
  (jb newslice e1).bind fun newslice1=>
  (iy tl1) newslice1

def iz(slices:(List (List Int))):List (List Int)->Int->Option (List Int)
 |[],size=>
  (kQ size).bind fun r=>
  iy slices r
 |e::tl,size=>
  if(decide ((IntKind.i64.wrap (size+(e.length:Int)))<(0:Int)))then
  (none)
  else
  ((iz slices tl) (IntKind.i64.wrap (size+(e.length:Int))))

def hU(slices:(List (List Int))):Option (List Int):=
 iz slices slices (0:Int)

def pt(tag:Int):Option Int:=
  if((tag==(1:Int))||(tag==(2:Int)))then
  (some (0:Int))
  else
  (if((decide ((4:Int)<=tag))&&(decide (tag<=(7:Int))))then
  (some (1:Int))
  else
  (if((decide ((12:Int)<=tag))&&(decide (tag<=(23:Int))))then
  (some (2:Int))
  else
  (some (-1:Int))))

def jC(v1:ap):Option ap:=
 some v1

def oF(v2:ap):Option ap:=
 jC (ap.mk (0:Int) v2.N v2.U v2.S)

def oE(v:ap):Option ap:=
 oF (ap.mk v.Kind (0:Int) v.U v.S)

def oD(v3:ap):Option ap:=
 jC v3

def uF(v:ap):Option ap:=
  if(v.Kind==(1:Int))then
  (if((v.N !=(0:Int))&&(v.N !=(1:Int)))then
  (jC v)
  else
  (oE v))
  else
  (if(v.Kind==(2:Int))then
  (oE v)
  else
  (if(v.Kind==(0:Int))then
  (oF v)
  else
  (if(v.Kind==(3:Int))then
  (if(decide ((v.S.length:Int)<=(40:Int)))then
  (oD (ap.mk (0:Int) v.N v.U ([])))
  else
  (oD v))
  else
  (if(v.Kind==(4:Int))then
  (jC (ap.mk (0:Int) (0:Int) (0:Int) v.S))
  else
  (jC v)))))

def gi(v:ap):Option Int:=
 (uF v).bind fun r=>
 if(!decide (r=(⟨(0:Int),(0:Int),(0:Int),[]⟩:ap)))then
 (some (120:Int))
 else
 (some (0:Int))

def rt(v:ap):Option Bool:=
 (gi v).bind fun r=>
 some ((r==(0:Int))&&(v.Kind !=(4:Int)))

def rU(n:am):Option Bool:=
  if(n.Tag==(1:Int))then
  ((rt n.Value).bind fun r=>
  some (r&&(n.Col==(0:Int))))
  else
  (if(n.Tag==(2:Int))then
  (some (((decide (n.Value=(⟨(0:Int),(0:Int),(0:Int),[]⟩:ap)))&&(decide ((0:Int)<=n.Col)))&&(decide (n.Col<(16:Int)))))
  else
  (some ((decide (n.Value=(⟨(0:Int),(0:Int),(0:Int),[]⟩:ap)))&&(n.Col==(0:Int)))))

def lp(nx:Nat->(List Int)->(List Int)->Option ((List Int)×Bool))(i:Nat)(e1:am)(all:List Int)(open1:List Int)(r:Int):List Int->Nat->Int->(List Int)->Option ((List Int)×Bool)
  |[],i1,first,at1=>
    if(!decide (at1=([e1.L,e1.R])))then
    (some ([],false))
    else
    ((jb all ([first])).bind fun all1=>
    (dz open1 0 (IntKind.i64.wrap ((open1.length:Int)-r))).bind fun y1=>
    (jb y1 ([(i:Int)])).bind fun open2=>
    nx (i+1) all1 open2)
  |e2::tl1,i1,first,at1=>
    (ga all e2).bind fun e3=>
    (ga at1 (i1:Int)).bind fun e4=>
    (some (at1.set (i1:Int).toNat e2)).bind fun ar=>
    (lp nx i e1 all open1 r tl1) (i1+1) (min first e3) ar

def jP:List am->Nat->(List Int)->(List Int)->Option ((List Int)×Bool)
  |[],i,all,open1=>
    some (all,(((open1.length:Int)==(1:Int))&&(decide ((all.length:Int)<=(1000:Int)))))
  |e1::tl,i,all,open1=>
    (pt e1.Tag).bind fun r=>
    (if(!((decide (r<(0:Int)))||(decide ((open1.length:Int)<r))))then((rU e1).bind fun r1=>
    some (!r1))else some true).bind fun t=>
    if t then
    (some ([],false))
    else
    ((dz open1 (IntKind.i64.wrap ((open1.length:Int)-r)) (open1.length:Int)).bind fun y=>
    lp (jP tl) i e1 all open1 r y 0 (i:Int) ([(-1:Int),(-1:Int)]))

def vl(e:aM):Option ((List Int)×Bool):=
 jP e.Nodes 0 ([]:List Int) ([]:List Int)

def re(e:aM):Option Int:=
 (vl e).bind fun r=>
 if(!r.2)then
 (some (200:Int))
 else
 (some (0:Int))

def dD(i:Nat)(y:List Int):Nat->Nat->(List Int)->Int->Option (List Int)
  |0,i1,s1,k=>
    (dz s1 k (s1.length:Int)).bind fun y1=>
    (some (s1.take k.toNat++List.replicate y1.length (0:Int))).bind fun cl=>
    (dz cl 0 k).bind fun y2=>
    some y2
  |k2+1,i1,s1,k=>
    (CJ s1 (i:Int) y.length (i1:Int)).bind fun e3=>
    (CJ s1 (i:Int) y.length (IntKind.i64.wrap ((i1:Int)-(1:Int)))).bind fun e4=>
    if(e3 !=e4)then
    ((CJ s1 (i:Int) y.length (i1:Int)).bind fun e5=>
    (ga s1 k).bind fun e6=>
    (some (s1.set k.toNat e5)).bind fun st=>
    (dD i y k2) (i1+1) st (IntKind.i64.wrap (k+(1:Int))))
    else
    ((dD i y k2) (i1+1) s1 k)

def ei(ae:(List Int)):List Int->Nat->Option (List Int)
  |[],i=>
    some ae
  |e::tl,i=>
    (ga ae (IntKind.i64.wrap ((i:Int)-(1:Int)))).bind fun e1=>
    if(e==e1)then
    ((dz ae (i:Int) (ae.length:Int)).bind fun y=>
    dD i y (y.length-1) 1 ae (i:Int))
    else
    ((ei ae tl) (i+1))

def jk(ae:(List Int)):Option (List Int):=
 if(decide ((ae.length:Int)<(2:Int)))then
 (some ae)
 else
 (ei ae (ae.drop (1)) 1)

def lH:List am->(List Int)->Option (List Int)
  |[],out=>
    (AZ out).bind fun Tk=>
    (jk Tk).bind fun r1=>
    some r1
  |e1::tl,out=>
    if(e1.Tag==(2:Int))then
    ((jb out ([e1.Col])).bind fun out1=>
    (lH tl) out1)
    else
    ((lH tl) out)

def s4(e:aM):Option (List Int):=
 (re e).bind fun r=>
 if(r !=(0:Int))then
 (some ([]:List Int))
 else
 (lH e.Nodes ([]:List Int))

def dj(ae:(List Int)):Option (List Int):=
 (jb ([]:List Int) ae).bind fun x=>
 some x

def nJ(stack:(List Int))(k:Int):Option ((List Int)×(List Int)):=
 (dz stack (IntKind.i64.wrap ((stack.length:Int)-k)) (stack.length:Int)).bind fun y=>
 (dj y).bind fun r=>
 (dz stack 0 (IntKind.i64.wrap ((stack.length:Int)-k))).bind fun y1=>
 some (r,y1)

def ln(bad:Int)(stack:List Int):Option (Int×Int):=
  if(bad !=(0:Int))then
  (some ((0:Int),bad))
  else
  ((ga stack (0:Int)).bind fun e1=>
  some (e1,(0:Int)))

def gp(do1:(am->(List Int)->Option (Int×Int))):List am->Int->(List Int)->Option (Int×Int)
  |[],bad1,stack1=>
    ln bad1 stack1
  |e2::tl,bad1,stack1=>
    (pt e2.Tag).bind fun r=>
    (nJ stack1 r).bind fun r1=>
    (do1 e2 r1.1).bind fun r2=>
    if(r2.2 !=(0:Int))then
    (ln r2.2 r1.2)
    else
    ((jb r1.2 ([r2.1])).bind fun l2=>
    (gp do1 tl) bad1 l2)

def nE(e:aM)(do1:(am->(List Int)->Option (Int×Int))):Option (Int×Int):=
 gp do1 e.Nodes (0:Int) ([]:List Int)

def ug(tag:Int):Option Bool:=
 some ((tag==(4:Int))||((decide ((12:Int)<=tag))&&(decide (tag<=(15:Int)))))

def lq(kinds:(List Int))(n:am):List Int->Int->Option (Int×Int)
  |[],own=>
    if(n.Tag==(1:Int))then
    (some (n.Value.Kind,(0:Int)))
    else
    (if(n.Tag==(2:Int))then
    ((ga kinds n.Col).bind fun e1=>
    some (e1,(0:Int)))
    else
    ((ug n.Tag).bind fun r=>
    if r then
    (if((own==(-1:Int))||((own !=(0:Int))&&(own !=(2:Int))))then
    (some ((0:Int),(201:Int)))
    else
    (some ((2:Int),(0:Int))))
    else
    (if(((n.Tag==(5:Int))||(n.Tag==(22:Int)))||(n.Tag==(23:Int)))then
    (if((own==(-1:Int))||((own !=(0:Int))&&(own !=(1:Int))))then
    (some ((0:Int),(201:Int)))
    else
    (some ((1:Int),(0:Int))))
    else
    (if((own==(-1:Int))||((own !=(0:Int))&&(own !=own)))then
    (some ((0:Int),(201:Int)))
    else
    (some ((1:Int),(0:Int)))))))
  |e::tl,own=>
    if((e==(0:Int))||(e==own))then
    ((lq kinds n tl) own)
    else
    (if(own==(0:Int))then
    ((lq kinds n tl) e)
    else
    ((lq kinds n tl) (-1:Int)))

def iM(kinds:(List Int))(n:am)(l:(List Int)):Option (Int×Int):=
 lq kinds n l (0:Int)

def lF(e:aM)(kinds:(List Int)):List Int->Option (Int×Int)
 |[]=>
  (nE e (iM kinds)).bind fun r2=>
  some (r2.1,r2.2)
 |e2::tl1=>
  if(decide ((kinds.length:Int)<=e2))then
  (some ((0:Int),(2:Int)))
  else
  ((lF e kinds tl1))

def oV(e:aM)(kinds:(List Int)):List Int->Option (Int×Int)
 |[]=>
  (s4 e).bind fun r1=>
  lF e kinds r1
 |e1::tl=>
  if((decide (e1<(0:Int)))||(decide ((3:Int)<e1)))then
  (some ((0:Int),(2:Int)))
  else
  ((oV e kinds tl))

def ma(e:aM)(kinds:(List Int)):Option (Int×Int):=
 (re e).bind fun r=>
 if(r !=(0:Int))then
 (some ((0:Int),r))
 else
 (oV e kinds kinds)

def i0(e:aM)(kinds:(List Int)):Option Bool:=
 (ma e kinds).bind fun r=>
 some ((r.2==(0:Int))&&((r.1==(0:Int))||(r.1==(1:Int))))

def fV(l:ai):Option (Bool×ai):=
 (hU ([l.a_,l.b])).bind fun r=>
 (i0 ((({l with result:=r}:ai).n).Cond) (({l with result:=r}:ai).result)).bind fun r1=>
 some (r1,({l with result:=r}:ai))

def ew(l:ai):Option (Bool×ai):=
 (i0 ((({l with result:=l.a_}:ai).n).Cond) (({l with result:=l.a_}:ai).a_)).bind fun r=>
 some (r,({l with result:=l.a_}:ai))

def dP(nx1:Bool->ai->Option (Bool×ai))(ob1:ai)(ok1:Bool)(k:Int):Option (Bool×ai):=
 (jb ob1.result ([k])).bind fun l7=>
 nx1 ok1 ({ob1 with result:=l7}:ai)

def f6(nx1:Bool->ai->Option (Bool×ai))(e1:fj)(ok:Bool)(ob1:ai)(r:Int×Int)(x:Bool):Option (Bool×ai):=
 if x then
 (dP nx1 ob1 (((ok&&(r.2==(0:Int)))&&(decide ((1:Int)<e1.Tag)))&&(decide (e1.Tag<=(5:Int)))) r.1)
 else
 (dP nx1 ob1 (((ok&&(r.2==(0:Int)))&&(decide ((1:Int)<e1.Tag)))&&(decide (e1.Tag<=(5:Int)))) (2:Int))

def cd:List fj->Bool->ai->Option (Bool×ai)
  |[],ok,ob1=>
    some (ok,ob1)
  |e1::tl1,ok,ob1=>
    if(e1.Tag==(1:Int))then
    (dP (cd tl1) ob1 (ok&&((e1.Arg.Nodes.length:Int)==(0:Int))) (2:Int))
    else
    ((ma e1.Arg ob1.a_).bind fun r=>
    if(e1.Tag==(3:Int))then
    (dP (cd tl1) ob1 ((((ok&&(r.2==(0:Int)))&&(decide ((1:Int)<e1.Tag)))&&(decide (e1.Tag<=(5:Int))))&&((r.1==(2:Int))||(r.1==(0:Int)))) (2:Int))
    else
    (if(e1.Tag==(4:Int))then
    (f6 (cd tl1) e1 ok ob1 r (e1.Tag==(4:Int)))
    else
    (f6 (cd tl1) e1 ok ob1 r (e1.Tag==(5:Int)))))

def cT(l:ai):List Int->ai->Option (Bool×ai)
  |[],ob=>
    cd l.n.Aggs (((decide ((l.n.Keys.length:Int)<=(3:Int)))&&(decide ((l.n.Aggs.length:Int)<=(12:Int))))&&(decide ((0:Int)<(IntKind.i64.wrap ((l.n.Keys.length:Int)+(l.n.Aggs.length:Int)))))) ob
  |e::tl,ob=>
    if((decide (e<(0:Int)))||(decide ((ob.a_.length:Int)<=e)))then
    (some (false,ob))
    else
    ((ga ob.a_ e).bind fun e2=>
    (jb ob.result ([e2])).bind fun l9=>
    (cT l tl) ({ob with result:=l9}:ai))

def dF(l:ai):Option (Bool×ai):=
 cT l l.n.Keys ({l with result:=([]:List Int)}:ai)

def eg:List fj->Nat->ai->Option (Bool×ai)
  |[],i1,ob=>
    some (true,ob)
  |e::tl,i1,ob=>
    if(e.Tag==(3:Int))then
    ((ga ob.result (IntKind.i64.wrap ((ob.n.Keys.length:Int)+(i1:Int)))).bind fun e1=>
    (some (ob.result.set (IntKind.i64.wrap ((ob.n.Keys.length:Int)+(i1:Int))).toNat (4:Int))).bind fun st=>
    (eg tl) (i1+1) ({ob with result:=st}:ai))
    else
    ((eg tl) (i1+1) ob)

def ed(l:ai):Option (Bool×ai):=
 (dF l).bind fun r=>
 if(!r.1)then
 (some (false,r.2))
 else
 (eg r.2.n.Aggs 0 r.2)

def f7(nx1:Nat->Bool->ai->Option (Bool×ai))(i1:Nat)(e2:fj)(ok1:Bool)(ob:ai)(e3:Int)(x1:Bool):Option (Bool×ai):=
 if x1 then
 (nx1 (i1+1) ((ok1&&((e2.Arg.Nodes.length:Int)==(0:Int)))&&(e3 !=(4:Int))) ob)
 else
 (nx1 (i1+1) false ob)

def ek(l:ai)(nx1:Nat->Bool->ai->Option (Bool×ai))(i1:Nat)(e2:fj)(ok1:Bool)(ob:ai)(e3:Int)(x:Bool):Option (Bool×ai):=
  if x then
  (nx1 (i1+1) ((ok1&&((e2.Arg.Nodes.length:Int)==(0:Int)))&&(e3==(2:Int))) ob)
  else
  (if(e2.Tag==(3:Int))then
  ((ga ob.result (IntKind.i64.wrap ((l.n.Keys.length:Int)+(i1:Int)))).bind fun e4=>
  (some (ob.result.set (IntKind.i64.wrap ((l.n.Keys.length:Int)+(i1:Int))).toNat (2:Int))).bind fun st=>
  nx1 (i1+1) ((ok1&&((e2.Arg.Nodes.length:Int)==(0:Int)))&&(e3==(4:Int))) ({ob with result:=st}:ai))
  else
  (if(e2.Tag==(4:Int))then
  (f7 nx1 i1 e2 ok1 ob e3 (e2.Tag==(4:Int)))
  else
  (f7 nx1 i1 e2 ok1 ob e3 (e2.Tag==(5:Int)))))

def bN(l:ai):List fj->Nat->Bool->ai->Option (Bool×ai)
 |[],i1,ok1,ob=>
  some (ok1,ob)
 |e2::tl1,i1,ok1,ob=>
  (ga ob.a_ (IntKind.i64.wrap ((l.n.Keys.length:Int)+(i1:Int)))).bind fun e3=>
  if(e2.Tag==(1:Int))then
  (ek l (bN l tl1) i1 e2 ok1 ob e3 (e2.Tag==(1:Int)))
  else
  (ek l (bN l tl1) i1 e2 ok1 ob e3 (e2.Tag==(2:Int)))

def du(l:ai)(r:(List Int)):List Int->Nat->Bool->Option (Bool×ai)
  |[],i,ok=>
    bN l l.n.Aggs 0 ok ({l with result:=r}:ai)
  |e1::tl,i,ok=>
    (if(ok&&(e1==(i:Int)))then((ga l.a_ (i:Int)).bind fun e5=>
    some (e5 !=(4:Int)))else some false).bind fun t=>
    (du l r tl) (i+1) t

def dG(l:ai):Option (Bool×ai):=
  (ga l.nodes l.n.A).bind fun e=>
  if(!((((e.Op==(9:Int))&&(decide ((l.n.Keys.length:Int)<=(3:Int))))&&(decide ((l.n.Aggs.length:Int)<=(12:Int))))&&((IntKind.i64.wrap ((l.n.Keys.length:Int)+(l.n.Aggs.length:Int)))==(l.a_.length:Int))))then
  (some (false,l))
  else
  ((dj l.a_).bind fun r=>
  du l r l.n.Keys 0 ((((e.Op==(9:Int))&&(decide ((l.n.Keys.length:Int)<=(3:Int))))&&(decide ((l.n.Aggs.length:Int)<=(12:Int))))&&((IntKind.i64.wrap ((l.n.Keys.length:Int)+(l.n.Aggs.length:Int)))==(l.a_.length:Int))))

def dH:List aM->ai->Option (Bool×ai)
  |[],ob=>
    some (decide ((0:Int)<(ob.result.length:Int)),ob)
  |e::tl,ob=>
    (ma e ob.a_).bind fun r=>
    if(r.2 !=(0:Int))then
    (some (false,ob))
    else
    ((jb ob.result ([r.1])).bind fun l4=>
    (dH tl) ({ob with result:=l4}:ai))

def gC(l:ai):Option (Bool×ai):=
 dH l.n.Items ({l with result:=([]:List Int)}:ai)

def j4(l:ai):Option (Bool×ai):=
 some (true,({l with result:=l.a_}:ai))

def ej(nx:Nat->ai->Option (Bool×ai))(i:Nat)(ob:ai)(e1:Int)(k:Int):Option (Bool×ai):=
  if((e1 !=(0:Int))&&(e1 !=k))then
  (some (false,ob))
  else
  ((jb ob.result ([k])).bind fun l4=>
  nx (i+1) ({ob with result:=l4}:ai))

def cS:List Int->Nat->ai->Option (Bool×ai)
 |[],i,ob=>
  some (true,ob)
 |e::tl,i,ob=>
  (ga ob.b (i:Int)).bind fun e1=>
  if(e==(0:Int))then
  (ej (cS tl) i ob e1 e1)
  else
  (ej (cS tl) i ob e1 e)

def gV(l:ai):Option (Bool×ai):=
 if((l.a_.length:Int) !=(l.b.length:Int))then
 (some (false,l))
 else
 (cS l.a_ 0 ({l with result:=([]:List Int)}:ai))

def di(f:(j3->Option Bool)):List j3->Nat->Option Int
 |[],i=>
  some (-1:Int)
 |e::tl,i=>
  (f e).bind fun r=>
  if r then
  (some (i:Int))
  else
  ((di f tl) (i+1))

def gz(ae:(List j3))(f:(j3->Option Bool)):Option Int:=
 di f ae 0

def ec(ae:(List j3))(f:(j3->Option Bool)):Option Bool:=
 (gz ae f).bind fun r=>
 some (decide ((0:Int)<=r))

def lb(l:ai)(o:j3):Option Bool:=
 some ((decide (o.Col<(0:Int)))||(decide ((l.a_.length:Int)<=o.Col)))

def iJ(l:ai):Option (Bool×ai):=
 (ec ((({l with result:=l.a_}:ai).n).Order) (lb ({l with result:=l.a_}:ai))).bind fun r=>
 some (((((!r)&&(decide ((((({l with result:=l.a_}:ai).n).Order).length:Int)<=(3:Int))))&&(decide ((-1:Int)<=((({l with result:=l.a_}:ai).n).Limit))))&&(decide (((({l with result:=l.a_}:ai).n).Limit)<=(2147483647:Int)))),({l with result:=l.a_}:ai))

def lT:Option (List (Int×(ai->Unit->Option (Bool×ai)))):=
 some (fi (fi (fi (fi (fi (fi (fi (fi (fi (fi (fi ([]:List (Int×(ai->Unit->Option (Bool×ai)))) (1:Int) (fun(mc:ai) (mx:Unit)=>iK mc)) (9:Int) (fun(mc:ai) (mx:Unit)=>gW mc)) (2:Int) (fun(mc:ai) (mx:Unit)=>fV mc)) (3:Int) (fun(mc:ai) (mx:Unit)=>ew mc)) (4:Int) (fun(mc:ai) (mx:Unit)=>dF mc)) (10:Int) (fun(mc:ai) (mx:Unit)=>ed mc)) (11:Int) (fun(mc:ai) (mx:Unit)=>dG mc)) (5:Int) (fun(mc:ai) (mx:Unit)=>gC mc)) (6:Int) (fun(mc:ai) (mx:Unit)=>j4 mc)) (7:Int) (fun(mc:ai) (mx:Unit)=>gV mc)) (8:Int) (fun(mc:ai) (mx:Unit)=>iJ mc))

def iB(x2:Bool):Option Int:=
 if x2 then
 (some (1:Int))
 else
 (some (-1:Int))

def pG(op:Int)(x1:Bool):Option Int:=
  if x1 then
  (some (2:Int))
  else
  (if(op==(3:Int))then
  (iB (op==(3:Int)))
  else
  (if(op==(4:Int))then
  (iB (op==(4:Int)))
  else
  (if(op==(5:Int))then
  (iB (op==(5:Int)))
  else
  (if(op==(6:Int))then
  (iB (op==(6:Int)))
  else
  (if(op==(8:Int))then
  (iB (op==(8:Int)))
  else
  (if(op==(10:Int))then
  (iB (op==(10:Int)))
  else
  (iB (op==(11:Int)))))))))

def pH(op:Int)(x:Bool):Option Int:=
  if x then
  (some (0:Int))
  else
  (if(op==(2:Int))then
  (pG op (op==(2:Int)))
  else
  (pG op (op==(7:Int))))

def tB(op:Int):Option Int:=
 if(op==(1:Int))then
 (pH op (op==(1:Int)))
 else
 (pH op (op==(9:Int)))

def pg(n:aa):Option Bool:=
 some ((((((((n.Op==(1:Int))||(n.Op==(9:Int)))||((n.Table==(0:Int))&&((n.Kinds.length:Int)==(0:Int))))&&((n.Op==(2:Int))||(!n.Left)))&&(((n.Op==(2:Int))||(n.Op==(3:Int)))||((n.Cond.Nodes.length:Int)==(0:Int))))&&((((n.Op==(4:Int))||(n.Op==(10:Int)))||(n.Op==(11:Int)))||((IntKind.i64.wrap ((n.Keys.length:Int)+(n.Aggs.length:Int)))==(0:Int))))&&((n.Op==(5:Int))||((n.Items.length:Int)==(0:Int))))&&((n.Op==(8:Int))||(((n.Order.length:Int)==(0:Int))&&(n.Limit==(0:Int)))))

def gj(v:Int):List Int->Nat->Option Int
 |[],i=>
  some (-1:Int)
 |e::tl,i=>
  if(v==e)then
  (some (i:Int))
  else
  ((gj v tl) (i+1))

def mE(ae:(List Int))(v:Int):Option Int:=
 gj v ae 0

def eW(ae:(List Int))(v:Int):Option Bool:=
 (mE ae v).bind fun r=>
 some (decide ((0:Int)<=r))

def aU(l:ai)(i:Int)(ask:(ai->Unit->Option (Bool×ai)))(e:aa)(r:Int):List Int->Nat->(List Int)->(List Int)->Option (Bool×ai)
  |[],i5,a_,b3=>
    if(((e.Op==(8:Int))||(e.Op==(10:Int)))&&(i !=(IntKind.i64.wrap (((({({({({({l with n:=e}:ai)with a_:=[]}:ai)with b:=[]}:ai)with a_:=a_}:ai)with b:=b3}:ai).nodes).length:Int)-(1:Int)))))then
    (some (false,({({({({({l with n:=e}:ai)with a_:=[]}:ai)with b:=[]}:ai)with a_:=a_}:ai)with b:=b3}:ai)))
    else
    ((ask ({({({({({l with n:=e}:ai)with a_:=[]}:ai)with b:=[]}:ai)with a_:=a_}:ai)with b:=b3}:ai) ()).bind fun r2=>
    if((!r2.1)||(decide ((16:Int)<(r2.2.result.length:Int))))then
    (some (false,r2.2))
    else
    ((jb r2.2.kinds ([r2.2.result])).bind fun l1=>
    (dz r2.2.open_ 0 (IntKind.i64.wrap ((r2.2.open_.length:Int)-r))).bind fun y2=>
    (jb y2 ([i])).bind fun l2=>
    some (true,({({r2.2 with kinds:=l1}:ai)with open_:=l2}:ai))))
  |e1::tl,i5,a_,b3=>
    (ga l.kinds e1).bind fun e2=>
    (if(e.Op !=(11:Int))then((eW e2 (4:Int)).bind fun r3=>
    some r3)else some false).bind fun t1=>
    if t1 then
    (some (false,({({({({({l with n:=e}:ai)with a_:=[]}:ai)with b:=[]}:ai)with a_:=a_}:ai)with b:=b3}:ai)))
    else
    (if((i5:Int)==(0:Int))then
    ((aU l i ask e r tl) (i5+1) (({({({({({({l with n:=e}:ai)with a_:=[]}:ai)with b:=[]}:ai)with a_:=a_}:ai)with b:=b3}:ai)with a_:=e2}:ai).a_) (({({({({({({l with n:=e}:ai)with a_:=[]}:ai)with b:=[]}:ai)with a_:=a_}:ai)with b:=b3}:ai)with a_:=e2}:ai).b))
    else
    ((aU l i ask e r tl) (i5+1) (({({({({({({l with n:=e}:ai)with a_:=[]}:ai)with b:=[]}:ai)with a_:=a_}:ai)with b:=b3}:ai)with b:=e2}:ai).a_) (({({({({({({l with n:=e}:ai)with a_:=[]}:ai)with b:=[]}:ai)with a_:=a_}:ai)with b:=b3}:ai)with b:=e2}:ai).b)))

def de(l:ai)(i:Int)(ask:(ai->Unit->Option (Bool×ai))):Option (Bool×ai):=
  (ga l.nodes i).bind fun e=>
  (tB e.Op).bind fun r=>
  (if(!((decide (r<(0:Int)))||(decide ((l.open_.length:Int)<r))))then((pg e).bind fun r1=>
  some (!r1))else some true).bind fun t=>
  if t then
  (some (false,l))
  else
  ((dz l.open_ (IntKind.i64.wrap ((l.open_.length:Int)-r)) (l.open_.length:Int)).bind fun y=>
  if(!decide ((ni ([(-1:Int),(-1:Int)]) y)=([e.A,e.B])))then
  (some (false,l))
  else
  ((dz l.open_ (IntKind.i64.wrap ((l.open_.length:Int)-r)) (l.open_.length:Int)).bind fun y1=>
  aU l i ask e r y1 0 (({({({l with n:=e}:ai)with a_:=[]}:ai)with b:=[]}:ai).a_) (({({({l with n:=e}:ai)with a_:=[]}:ai)with b:=[]}:ai).b)))

def lU:List (List Int)->(List (List Int))->Option ((List (List Int))×Int×Int)
 |[],out=>
  some (out,(0:Int),(0:Int))
 |e::tl,out=>
  (dj e).bind fun r1=>
  (jb out ([r1])).bind fun out1=>
  (lU tl) out1

def kE(ob:ai)(wrong1:Int):Option ((List (List Int))×Int×Int):=
 if(decide ((0:Int)<=wrong1))then
 (some ([],wrong1,(291:Int)))
 else
 (lU ob.kinds ([]:List (List Int)))

def jv(nodes:(List aa))(wrong:Int)(ob:ai):Option ((List (List Int))×Int×Int):=
 if((decide (wrong<(0:Int)))&&((ob.open_.length:Int) !=(1:Int)))then
 (kE ob (IntKind.i64.wrap ((nodes.length:Int)-(1:Int))))
 else
 (kE ob wrong)

def fh(nodes:(List aa))(r:(List (Int×(ai->Unit->Option (Bool×ai))))):List aa->Nat->Int->ai->Option ((List (List Int))×Int×Int)
 |[],i1,wrong2,ob1=>
  jv nodes wrong2 ob1
 |e1::tl1,i1,wrong2,ob1=>
  (de ob1 (i1:Int) ((sq r e1.Op).getD (fun _ _=>none))).bind fun r2=>
  if(!r2.1)then
  (jv nodes (i1:Int) r2.2)
  else
  ((fh nodes r tl1) (i1+1) wrong2 r2.2)

def kF(nodes:(List aa)):Option ((List (List Int))×Int×Int):=
  if((decide ((nodes.length:Int)<(1:Int)))||(decide ((60:Int)<(nodes.length:Int))))then
  (some ([],(0:Int),(291:Int)))
  else
  ((lT).bind fun r=>
  fh nodes r nodes 0 (-1:Int) (⟨nodes,[],[],(⟨(0:Int),(0:Int),(0:Int),(0:Int),[],false,(⟨[]⟩:aM),[],[],[],[],(0:Int)⟩:aa),[],[],[]⟩:ai))

def lZ(p:iu):List dE->Option Bool
  |[]=>
    some ((decide ((1:Int)<=(p.Frags.length:Int)))&&(decide ((p.Frags.length:Int)<=(30:Int))))
  |e::tl=>
    (kF e.Nodes).bind fun r=>
    (if(((decide ((1:Int)<=e.Way))&&(decide (e.Way<=(4:Int))))&&(decide ((e.Cols.length:Int)<=(16:Int))))then((dR e.Cols oS).bind fun r1=>
    some (!r1))else some false).bind fun t=>
    if(((r.2.2 !=(0:Int))||(!((e.At==(1:Int))||(e.At==(2:Int)))))||(!t))then
    (some false)
    else
    ((lZ p tl))

def lE(p:iu):Option Bool:=
 lZ p p.Frags

def xR(n:Int):Option Bool:=
 some ((decide ((1:Int)<=n))&&(decide (n<=(2147483647:Int))))

def fQ(f:((List ap)->Option Bool)):List (List ap)->Nat->Option Int
 |[],i=>
  some (-1:Int)
 |e::tl,i=>
  (f e).bind fun r=>
  if r then
  (some (i:Int))
  else
  ((fQ f tl) (i+1))

def kg(ae:(List (List ap)))(f:((List ap)->Option Bool)):Option Int:=
 fQ f ae 0

def ju(ae:(List (List ap)))(f:((List ap)->Option Bool)):Option Bool:=
 (kg ae f).bind fun r=>
 some (decide ((0:Int)<=r))

def uL(v:ap):Option Bool:=
 (gi v).bind fun r=>
 some (r !=(0:Int))

def fx(f:(ap->Option Bool)):List ap->Nat->Option Int
 |[],i=>
  some (-1:Int)
 |e::tl,i=>
  (f e).bind fun r=>
  if r then
  (some (i:Int))
  else
  ((fx f tl) (i+1))

def jD(ae:(List ap))(f:(ap->Option Bool)):Option Int:=
 fx f ae 0

def iP(ae:(List ap))(f:(ap->Option Bool)):Option Bool:=
 (jD ae f).bind fun r=>
 some (decide ((0:Int)<=r))

def Dk(r:(List ap)):Option Bool:=
  (if(decide ((r.length:Int)<=(16:Int)))then((iP r uL).bind fun r1=>
  some (!r1))else some false).bind fun t=>
  some t

def Dm(r:(List ap)):Option Int:=
 (Dk r).bind fun r1=>
 if(!r1)then
 (some (150:Int))
 else
 (some (0:Int))

def zI(r:(List ap)):Option Bool:=
 (Dm r).bind fun r1=>
 some (r1 !=(0:Int))

def DB(l:(List (List ap))):Option Bool:=
  (if((decide ((0:Int)<(l.length:Int)))&&(decide ((l.length:Int)<=(4:Int))))then((ju l zI).bind fun r=>
  some (!r))else some false).bind fun t=>
  some t

def Bp(b:mZ)(seq:Int):Option Bool:=
  if((decide (seq<(1:Int)))||(decide ((1099511627776:Int)<seq)))then
  (some false)
  else
  (if b.End then
  (some (((b.Rows.length:Int)==(0:Int))&&(b.Count==(IntKind.u64.wrap (seq-(1:Int))))))
  else
  ((if(b.Count==(0:Int))then((DB b.Rows).bind fun r=>
  some r)else some false).bind fun t=>
  some t))

def Dl(a1:(List ap))(b:(List ap)):Option Bool:=
 (ig a1 b).bind fun r=>
 some r

def FT(a1:(List (List ap)))(b:(List (List ap))):Option Bool:=
 (dC a1 b Dl).bind fun r=>
 some r

def DA(a1:mZ)(b:mZ):Option Bool:=
  (if((a1.End==b.End)&&(a1.Count==b.Count))then((FT a1.Rows b.Rows).bind fun r=>
  some r)else some false).bind fun t=>
  some t

def sV(p:kW):Option Int:=
  (xR p.Session).bind fun r=>
  if(p.Kind==(1:Int))then
  ((if(r&&(p.Limit==(0:Int)))then((Bp p.Batch p.Seq).bind fun r1=>
  some r1)else some false).bind fun t=>
  if(!t)then
  (some (321:Int))
  else
  (some (0:Int)))
  else
  (if(p.Kind==(2:Int))then
  ((if r then((DA p.Batch (⟨[],false,(0:Int)⟩:mZ)).bind fun r2=>
  some r2)else some false).bind fun t1=>
  if(!((((t1&&(decide ((1:Int)<=p.Seq)))&&(decide (p.Seq<=(1099511627777:Int))))&&(decide ((IntKind.u64.wrap (p.Seq-(1:Int)))<=p.Limit)))&&(decide (p.Limit<=(1099511627776:Int)))))then
  (some (321:Int))
  else
  (some (0:Int)))
  else
  (if(!false)then
  (some (321:Int))
  else
  (some (0:Int))))

def jO(m:oY)(kind:Int):Option Bool:=
  (if(((decide ((0:Int)<=m.Frag))&&(decide (m.Frag<(30:Int))))&&(m.Packet.Kind==kind))then((sV m.Packet).bind fun r=>
  some (r==(0:Int)))else some false).bind fun t=>
  some t

def nH(m:oY)(x:Bool):Option Bool:=
  if x then
  (some true)
  else
  (if(m.Kind==(3:Int))then
  (((jO m) (1:Int)).bind fun r1=>
  some r1)
  else
  (if(m.Kind==(4:Int))then
  (((jO m) (2:Int)).bind fun r2=>
  some r2)
  else
  (if(m.Kind==(5:Int))then
  (some ((m.Err==(140:Int))||(m.Err==(300:Int))))
  else
  (some false))))

def xW(m:oY):Option Bool:=
  if(m.Kind==(1:Int))then
  ((if((decide ((1:Int)<=m.Sites))&&(decide (m.Sites<=(8:Int))))then((lE m.Plan).bind fun r=>
  some r)else some false).bind fun t=>
  some t)
  else
  (if(m.Kind==(2:Int))then
  (nH m (m.Kind==(2:Int)))
  else
  (if(m.Kind==(6:Int))then
  (nH m (m.Kind==(6:Int)))
  else
  (nH m (m.Kind==(7:Int)))))

def zL(m:oY):Option Bool:=
  (pK m.From).bind fun r=>
  (if r then((pK m.To).bind fun r1=>
  some r1)else some false).bind fun t=>
  (if((t&&(decide ((1:Int)<=m.Epoch)))&&(decide (m.Epoch<=(12:Int))))then((zK m).bind fun r2=>
  some r2)else some false).bind fun t1=>
  (if t1 then((xW m).bind fun r3=>
  some r3)else some false).bind fun t2=>
  some t2

def eH:List Int->aL->Option aL
 |[],ob=>
  some ob
 |e::tl,ob=>
  (jb ob.bytes ([(IntKind.u8.wrap e)])).bind fun l2=>
  (eH tl) ({ob with bytes:=l2}:aL)

def bO(w1:aL)(l:(List Int)):Option aL:=
 eH l w1

def iS(w1:aL)(l:(List Int)):Option aL:=
 (bO w1 ([(l.length:Int)])).bind fun r=>
 (bO r l).bind fun r1=>
 some r1

def ee(w1:aL)(n:aa):Option aL:=
 (bO w1 ([n.Table])).bind fun r=>
 (iS r n.Kinds).bind fun r1=>
 some r1

def kq(w1:aL)(n:Int):Option aL:=
 (bO w1 ([n])).bind fun r=>
 some r

def gI(w1:aL)(is1:Bool):Option aL:=
 if is1 then
 (kq w1 (1:Int))
 else
 (kq w1 (0:Int))

def jf(p:Int)(bytes:Int):Nat->(List Int)->Int->Option (List Int)
  |0,_,_=>none
  |n+1,out1,x=>
    if(decide (x<bytes))then
    ((SW (IntKind.i64.wrap ((IntKind.i64.wrap ((8:Int)*(IntKind.i64.wrap (bytes-x))))-(8:Int)))).bind fun u=>
    (jb out1 ([(IntKind.u8.wrap (((IntKind.u64.wrap p)).fdiv (2^(min (Int.toNat (IntKind.i64.wrap ((IntKind.i64.wrap ((8:Int)*(IntKind.i64.wrap (bytes-x))))-(8:Int)))) IntKind.u64.bits))))])).bind fun out2=>
    (jf p bytes n) out2 (IntKind.i64.wrap (x+(1:Int))))
    else
    (some out1)

def pn(b:(List Int))(p:Int)(bytes:Int):Option (List Int):=
 (uD (0:Int) (IntKind.i64.wrap ((b.length:Int)+bytes)) (0:Int)).bind fun mk=>
 (jb mk b).bind fun out=>
 jf p bytes eI out (0:Int)

def oh(b:(List Int))(p:Int):Option (List Int):=
 (pn b p (2:Int)).bind fun r=>
 some r

def dA(p:Int)(bytes:Int):Nat->(List Int)->Int->Option (List Int)
  |0,_,_=>none
  |n+1,out1,x=>
    if(decide (x<bytes))then
    ((SW (IntKind.i64.wrap ((IntKind.i64.wrap ((8:Int)*(IntKind.i64.wrap (bytes-x))))-(8:Int)))).bind fun u=>
    (jb out1 ([(IntKind.u8.wrap ((p).fdiv (2^(min (Int.toNat (IntKind.i64.wrap ((IntKind.i64.wrap ((8:Int)*(IntKind.i64.wrap (bytes-x))))-(8:Int)))) IntKind.u64.bits))))])).bind fun out2=>
    (dA p bytes n) out2 (IntKind.i64.wrap (x+(1:Int))))
    else
    (some out1)

def pj(b:(List Int))(p:Int)(bytes:Int):Option (List Int):=
 (uD (0:Int) (IntKind.i64.wrap ((b.length:Int)+bytes)) (0:Int)).bind fun mk=>
 (jb mk b).bind fun out=>
 dA p bytes eI out (0:Int)

def jw(b:(List Int))(p:Int):Option (List Int):=
 (pj b p (8:Int)).bind fun r=>
 some r

def pV(v:ap):Option ((List Int)×Int):=
  (gi v).bind fun r=>
  if(r !=(0:Int))then
  (some ([],r))
  else
  (if(v.Kind==(1:Int))then
  ((jb ([(IntKind.u8.wrap v.Kind)]) ([(IntKind.u8.wrap v.N)])).bind fun b=>
  some (b,(0:Int)))
  else
  (if(v.Kind==(2:Int))then
  ((jw ([(IntKind.u8.wrap v.Kind)]) (IntKind.u64.wrap v.N)).bind fun r1=>
  some (r1,(0:Int)))
  else
  (if(v.Kind==(3:Int))then
  ((jb ([(IntKind.u8.wrap v.Kind)]) ([(IntKind.u8.wrap (v.S.length:Int))])).bind fun l3=>
  (jb l3 (lI v.S)).bind fun b1=>
  some (b1,(0:Int)))
  else
  (if(v.Kind==(4:Int))then
  ((jw ([(IntKind.u8.wrap v.Kind)]) (IntKind.u64.wrap v.N)).bind fun r2=>
  (jw r2 v.U).bind fun r3=>
  some (r3,(0:Int)))
  else
  (some ([(IntKind.u8.wrap v.Kind)],(0:Int)))))))

def dk:List am->aL->Option aL
  |[],ob=>
    some ob
  |e1::tl,ob=>
    (bO ob ([e1.Tag])).bind fun r1=>
    if(e1.Tag==(2:Int))then
    ((bO r1 ([e1.Col])).bind fun r2=>
    (dk tl) r2)
    else
    (if(e1.Tag==(1:Int))then
    ((pV e1.Value).bind fun r3=>
    (jb r1.bytes r3.1).bind fun l1=>
    (dk tl) ({r1 with bytes:=l1}:aL))
    else
    ((dk tl) r1))

def gJ(w1:aL)(e:aM):Option aL:=
 (oh w1.bytes (IntKind.u16.wrap (e.Nodes.length:Int))).bind fun r=>
 dk e.Nodes ({w1 with bytes:=r}:aL)

def gH(w1:aL)(n:aa):Option aL:=
 (gI w1 n.Left).bind fun r=>
 (gJ r n.Cond).bind fun r1=>
 some r1

def fI(w1:aL)(n:aa):Option aL:=
 (gJ w1 n.Cond).bind fun r=>
 some r

def fN:List fj->aL->Option aL
 |[],ob=>
  some ob
 |e::tl,ob=>
  (bO ob ([e.Tag])).bind fun r2=>
  (gJ r2 e.Arg).bind fun r3=>
  (fN tl) r3

def dw(w1:aL)(n:aa):Option aL:=
 (iS w1 n.Keys).bind fun r=>
 (bO r ([(n.Aggs.length:Int)])).bind fun r1=>
 fN n.Aggs r1

def eY:List aM->aL->Option aL
 |[],ob=>
  some ob
 |e::tl,ob=>
  (gJ ob e).bind fun r1=>
  (eY tl) r1

def fd(w1:aL)(n:aa):Option aL:=
 (bO w1 ([(n.Items.length:Int)])).bind fun r=>
 eY n.Items r

def je(p:Int)(bytes:Int):Nat->(List Int)->Int->Option (List Int)
  |0,_,_=>none
  |n+1,out1,x=>
    if(decide (x<bytes))then
    ((SW (IntKind.i64.wrap ((IntKind.i64.wrap ((8:Int)*(IntKind.i64.wrap (bytes-x))))-(8:Int)))).bind fun u=>
    (jb out1 ([(IntKind.u8.wrap (((IntKind.u64.wrap p)).fdiv (2^(min (Int.toNat (IntKind.i64.wrap ((IntKind.i64.wrap ((8:Int)*(IntKind.i64.wrap (bytes-x))))-(8:Int)))) IntKind.u64.bits))))])).bind fun out2=>
    (je p bytes n) out2 (IntKind.i64.wrap (x+(1:Int))))
    else
    (some out1)

def pm(b:(List Int))(p:Int)(bytes:Int):Option (List Int):=
 (uD (0:Int) (IntKind.i64.wrap ((b.length:Int)+bytes)) (0:Int)).bind fun mk=>
 (jb mk b).bind fun out=>
 je p bytes eI out (0:Int)

def mQ(b:(List Int))(p:Int):Option (List Int):=
 (pm b p (4:Int)).bind fun r=>
 some r

def fM(n:aa):List j3->aL->Option aL
 |[],ob=>
  (mQ ob.bytes (IntKind.u32.wrap (IntKind.i64.wrap (n.Limit+(1:Int))))).bind fun r1=>
  some ({ob with bytes:=r1}:aL)
 |e::tl,ob=>
  (bO ob ([e.Col])).bind fun r2=>
  (gI r2 e.Desc).bind fun r3=>
  (fM n tl) r3

def gb(w1:aL)(n:aa):Option aL:=
 (bO w1 ([(n.Order.length:Int)])).bind fun r=>
 fM n n.Order r

def dI(nx:aL->Option aL):List aa->aL->Option aL
  |[],ob1=>
    nx ob1
  |e1::tl1,ob1=>
    (bO ob1 ([e1.Op])).bind fun r4=>
    if((sq (fi (fi (fi (fi (fi (fi (fi (fi (fi ([]:List (Int×(aL->aa->Option (Unit×aL)))) (1:Int) (fun(mc:aL) (mx:aa)=>(ee mc mx).map fun mr=>((),mr))) (9:Int) (fun(mc:aL) (mx:aa)=>(ee mc mx).map fun mr=>((),mr))) (2:Int) (fun(mc:aL) (mx:aa)=>(gH mc mx).map fun mr=>((),mr))) (3:Int) (fun(mc:aL) (mx:aa)=>(fI mc mx).map fun mr=>((),mr))) (4:Int) (fun(mc:aL) (mx:aa)=>(dw mc mx).map fun mr=>((),mr))) (10:Int) (fun(mc:aL) (mx:aa)=>(dw mc mx).map fun mr=>((),mr))) (11:Int) (fun(mc:aL) (mx:aa)=>(dw mc mx).map fun mr=>((),mr))) (5:Int) (fun(mc:aL) (mx:aa)=>(fd mc mx).map fun mr=>((),mr))) (8:Int) (fun(mc:aL) (mx:aa)=>(gb mc mx).map fun mr=>((),mr))) e1.Op).isSome)then
    ((((sq (fi (fi (fi (fi (fi (fi (fi (fi (fi ([]:List (Int×(aL->aa->Option (Unit×aL)))) (1:Int) (fun(mc:aL) (mx:aa)=>(ee mc mx).map fun mr=>((),mr))) (9:Int) (fun(mc:aL) (mx:aa)=>(ee mc mx).map fun mr=>((),mr))) (2:Int) (fun(mc:aL) (mx:aa)=>(gH mc mx).map fun mr=>((),mr))) (3:Int) (fun(mc:aL) (mx:aa)=>(fI mc mx).map fun mr=>((),mr))) (4:Int) (fun(mc:aL) (mx:aa)=>(dw mc mx).map fun mr=>((),mr))) (10:Int) (fun(mc:aL) (mx:aa)=>(dw mc mx).map fun mr=>((),mr))) (11:Int) (fun(mc:aL) (mx:aa)=>(dw mc mx).map fun mr=>((),mr))) (5:Int) (fun(mc:aL) (mx:aa)=>(fd mc mx).map fun mr=>((),mr))) (8:Int) (fun(mc:aL) (mx:aa)=>(gb mc mx).map fun mr=>((),mr))) e1.Op).getD (fun _ _=>none)) r4 (e1)).bind fun r5=>
    (dI nx tl1) r5.2)
    else
    ((dI nx tl1) r4)

def fe:List dE->aL->Option aL
 |[],ob=>
  some ob
 |e::tl,ob=>
  (bO ob ([e.At,e.Way])).bind fun r1=>
  (iS r1 e.Cols).bind fun r2=>
  (bO r2 ([(e.Nodes.length:Int)])).bind fun r3=>
  dI (fe tl) e.Nodes r3

def iR(w1:aL)(p:iu):Option aL:=
 (bO w1 ([(p.Frags.length:Int)])).bind fun r=>
 fe p.Frags r

def qg:List ap->(List Int)->Option ((List Int)×Int)
  |[],b1=>
    some (b1,(0:Int))
  |e::tl,b1=>
    (pV e).bind fun r=>
    if(r.2 !=(0:Int))then
    (some (([]:List Int),r.2))
    else
    ((jb b1 r.1).bind fun b3=>
    (qg tl) b3)

def yo(b:(List Int))(l1:(List ap)):Option ((List Int)×Int):=
 qg l1 b

def DP(r:(List ap)):Option ((List Int)×Int):=
  if(decide ((16:Int)<(r.length:Int)))then
  (some ([],(3:Int)))
  else
  ((yo ([(IntKind.u8.wrap (r.length:Int))]) r).bind fun r1=>
  some (r1.1,r1.2))

def sv(b:List Int)(at1:Int)(e:Int):Option ((List Int)×Int×Int):=
 if(e !=(0:Int))then
 (some ([],at1,e))
 else
 (some (b,(0:Int),(0:Int)))

def su:List (List ap)->Nat->(List Int)->Int->Int->Option ((List Int)×Int×Int)
  |[],i,b1,at2,e1=>
    sv b1 at2 e1
  |e2::tl,i,b1,at2,e1=>
    (DP e2).bind fun r1=>
    if(r1.2 !=(0:Int))then
    (sv b1 (i:Int) r1.2)
    else
    ((jb b1 r1.1).bind fun b2=>
    (su tl) (i+1) b2 at2 r1.2)

def BW(l:(List (List ap))):Option ((List Int)×Int×Int):=
  if(decide ((400:Int)<(l.length:Int)))then
  (some ([],(0:Int),(3:Int)))
  else
  ((oh ([]) (IntKind.u16.wrap (l.length:Int))).bind fun r=>
  su l 0 r (0:Int) (0:Int))

def qi(w1:aL)(p:kW):Option aL:=
  (mQ w1.bytes p.Session).bind fun r=>
  (jw r p.Seq).bind fun r1=>
  if(p.Kind==(2:Int))then
  ((jw r1 p.Limit).bind fun r2=>
  some ({({w1 with bytes:=r1}:aL)with bytes:=r2}:aL))
  else
  ((gI ({w1 with bytes:=r1}:aL) p.Batch.End).bind fun r3=>
  if p.Batch.End then
  ((jw r3.bytes p.Batch.Count).bind fun r4=>
  some ({r3 with bytes:=r4}:aL))
  else
  ((BW p.Batch.Rows).bind fun r5=>
  (jb r3.bytes r5.1).bind fun l=>
  some ({r3 with bytes:=l}:aL)))

def lh(m:oY)(r:aL)(x:Bool):Option aL:=
  if x then
  ((bO r ([m.Frag])).bind fun r3=>
  (qi r3 m.Packet).bind fun r4=>
  some r4)
  else
  (if(m.Kind==(5:Int))then
  ((gI r (m.Err==(300:Int))).bind fun r5=>
  some r5)
  else
  (some r))

def pR(w1:aL)(m:oY):Option aL:=
  (bO w1 ([m.Kind,m.From,m.To,m.Epoch])).bind fun r=>
  if(m.Kind==(1:Int))then
  ((bO r ([m.Sites])).bind fun r1=>
  (iR r1 m.Plan).bind fun r2=>
  some r2)
  else
  (if(m.Kind==(3:Int))then
  (lh m r (m.Kind==(3:Int)))
  else
  (lh m r (m.Kind==(4:Int))))

def xX(m:oY):Option ((List Int)×Int):=
  (zL m).bind fun r=>
  if(!r)then
  (some ([],(330:Int)))
  else
  ((pR (⟨[]⟩:aL) m).bind fun r1=>
  (AX r1.bytes).bind fun r2=>
  if(decide ((20000:Int)<(r2.length:Int)))then
  (some ([],(330:Int)))
  else
  (some (r2,(0:Int))))

def ot(a1:(List Int))(b:(List Int)):Option Bool:=
 some ((kM a1)==(kM b))

def u0:Option Bool:=
  (xX (⟨(2:Int),(2:Int),(0:Int),(3:Int),(0:Int),(0:Int),(⟨[]⟩:iu),(⟨(0:Int),(0:Int),(0:Int),(0:Int),(⟨[],false,(0:Int)⟩:mZ)⟩:kW),(0:Int)⟩:oY)).bind fun r=>
  (if((r.2==(0:Int))&&((r.1.length:Int)==(8:Int)))then((dz r.1 0 (4:Int)).bind fun y=>
  (ot y ([(2:Int),(2:Int),(0:Int),(3:Int)])).bind fun r1=>
  some r1)else some false).bind fun t=>
  some t

def oa(v:ap):Option Bool:=
  if(v.Kind==(0:Int))then
  (some (decide (v=(⟨(0:Int),(0:Int),(0:Int),[]⟩:ap))))
  else
  (if(v.Kind==(1:Int))then
  (some (((v.U==(0:Int))&&(v.S==([])))&&((v.N==(0:Int))||(v.N==(1:Int)))))
  else
  (if(v.Kind==(2:Int))then
  (some ((v.U==(0:Int))&&(v.S==([]))))
  else
  (if(v.Kind==(3:Int))then
  (some (((v.N==(0:Int))&&(v.U==(0:Int)))&&(decide ((v.S.length:Int)<=(40:Int)))))
  else
  (some ((v.Kind==(4:Int))&&(v.S==([])))))))

def jI(x1:Bool):Option Int:=
 if x1 then
 (some (1:Int))
 else
 (some (-1:Int))

def oL(op:Int)(x:Bool):Option Int:=
  if x then
  (some (2:Int))
  else
  (if(op==(3:Int))then
  (jI (op==(3:Int)))
  else
  (if(op==(4:Int))then
  (jI (op==(4:Int)))
  else
  (if(op==(5:Int))then
  (jI (op==(5:Int)))
  else
  (if(op==(6:Int))then
  (jI (op==(6:Int)))
  else
  (jI (op==(8:Int)))))))

def pP(op:Int):Option Int:=
  if(op==(1:Int))then
  (some (0:Int))
  else
  (if(op==(2:Int))then
  (oL op (op==(2:Int)))
  else
  (oL op (op==(7:Int))))

def qV(op:Int)(x:Bool):Option Int:=
  if x then
  (some (1:Int))
  else
  ((pP op).bind fun r=>
  some r)

def uN(op:Int):Option Int:=
  if(op==(9:Int))then
  (some (0:Int))
  else
  (if(op==(10:Int))then
  (qV op (op==(10:Int)))
  else
  (qV op (op==(11:Int))))

def fy:Nat->(List aa)->Int->Option Int
  |0,_,_=>none
  |fu+1,l,at1=>
    if((decide (at1<(0:Int)))||(decide ((l.length:Int)<=at1)))then
    (some (0:Int))
    else
    ((ga l at1).bind fun e=>
    (uN e.Op).bind fun r=>
    if(r==(0:Int))then
    (if((e.A==(-1:Int))&&(e.B==(-1:Int)))then
    (some (1:Int))
    else
    (some (0:Int)))
    else
    (if(r==(1:Int))then
    (((fy fu) l (IntKind.i64.wrap (at1-(1:Int)))).bind fun r1=>
    if(((e.A==(IntKind.i64.wrap (at1-(1:Int))))&&(e.B==(-1:Int)))&&(decide ((0:Int)<r1)))then
    (some (IntKind.i64.wrap (r1+(1:Int))))
    else
    (some (0:Int)))
    else
    (if(r==(2:Int))then
    (((fy fu) l (IntKind.i64.wrap (at1-(1:Int)))).bind fun r2=>
    if(((r2==(0:Int))||(e.B !=(IntKind.i64.wrap (at1-(1:Int)))))||(e.A !=(IntKind.i64.wrap ((IntKind.i64.wrap (at1-(1:Int)))-r2))))then
    (some (0:Int))
    else
    (((fy fu) l e.A).bind fun r3=>
    if(decide ((0:Int)<r3))then
    (some (IntKind.i64.wrap ((IntKind.i64.wrap (r3+r2))+(1:Int))))
    else
    (some (0:Int))))
    else
    (some (0:Int)))))

def tz(l:(List aa))(at1:Int):Option Int:=
 fy eI l at1

def n9(n:aa):Option Bool:=
  if((n.Op !=(1:Int))&&((n.Table !=(0:Int))||(decide ((0:Int)<(n.Kinds.length:Int)))))then
  (some false)
  else
  (if(((n.Op !=(2:Int))&&n.Left)||(((n.Op !=(2:Int))&&(n.Op !=(3:Int)))&&(decide ((0:Int)<(n.Cond.Nodes.length:Int)))))then
  (some false)
  else
  (if(((n.Op !=(4:Int))&&((decide ((0:Int)<(n.Keys.length:Int)))||(decide ((0:Int)<(n.Aggs.length:Int)))))||((n.Op !=(5:Int))&&(decide ((0:Int)<(n.Items.length:Int)))))then
  (some false)
  else
  (some ((n.Op==(8:Int))||(((n.Order.length:Int)==(0:Int))&&(n.Limit==(0:Int)))))))

def m5(n:aa)(x:Bool):Option Bool:=
  if x then
  ((n9 (aa.mk (4:Int) n.A n.B n.Table n.Kinds n.Left n.Cond n.Keys n.Aggs n.Items n.Order n.Limit)).bind fun r1=>
  some r1)
  else
  ((n9 n).bind fun r2=>
  some r2)

def n7(n:aa):Option Bool:=
  if(n.Op==(9:Int))then
  ((n9 (aa.mk (1:Int) n.A n.B n.Table n.Kinds n.Left n.Cond n.Keys n.Aggs n.Items n.Order n.Limit)).bind fun r=>
  some r)
  else
  (if(n.Op==(10:Int))then
  (m5 n (n.Op==(10:Int)))
  else
  (m5 n (n.Op==(11:Int))))

def mK(n:aa):List Int->Bool->Option ((List Int)×Bool)
 |[],ok=>
  some (n.Kinds,ok)
 |e::tl,ok=>
  (mK n tl) ((ok&&(decide ((0:Int)<=e)))&&(decide (e<=(4:Int))))

def uM(n:aa):Option ((List Int)×Bool):=
 mK n n.Kinds ((((decide ((0:Int)<=n.Table))&&(decide (n.Table<(30:Int))))&&(decide ((1:Int)<=(n.Kinds.length:Int))))&&(decide ((n.Kinds.length:Int)<=(16:Int))))

def si:List Int->Option Bool
 |[]=>
  some false
 |e::tl=>
  if(e==(4:Int))then
  (some true)
  else
  ((si tl))

def wQ(kinds:(List Int)):Option Bool:=
 si kinds

def wp(nx1:aM->Option aM)(out1:aM)(n1:am):Option aM:=
 (jb out1.Nodes ([n1])).bind fun l5=>
 nx1 ({out1 with Nodes:=l5}:aM)

def wq(out:aM)(nx1:aM->Option aM)(out1:aM)(n:am):Option aM:=
 if(decide ((0:Int)<=n.R))then
 (wp nx1 out1 (am.mk n.Tag n.L (IntKind.i64.wrap (n.R+(out.Nodes.length:Int))) n.Col n.Value))
 else
 (wp nx1 out1 n)

def sj(nx:Nat->am->aM->Option aM)(i:Nat)(root1:am)(out:aM):List am->aM->Option aM
 |[],out1=>
  if((i:Int)==(0:Int))then
  (nx (i+1) (am.mk root1.Tag (IntKind.i64.wrap ((out1.Nodes.length:Int)-(1:Int))) root1.R root1.Col root1.Value) out1)
  else
  (nx (i+1) (am.mk root1.Tag root1.L (IntKind.i64.wrap ((out1.Nodes.length:Int)-(1:Int))) root1.Col root1.Value) out1)
 |e1::tl1,out1=>
  if(decide ((0:Int)<=e1.L))then
  (wq out (sj nx i root1 out tl1) out1 (am.mk e1.Tag (IntKind.i64.wrap (e1.L+(out.Nodes.length:Int))) e1.R e1.Col e1.Value))
  else
  (wq out (sj nx i root1 out tl1) out1 e1)

def sk:List aM->Nat->am->aM->Option aM
 |[],i,root1,out=>
  (jb out.Nodes ([root1])).bind fun l2=>
  some ({out with Nodes:=l2}:aM)
 |e::tl,i,root1,out=>
  sj (sk tl) i root1 out e.Nodes out

def wT(root:am)(l:(List aM)):Option aM:=
 sk l 0 (am.mk root.Tag (-1:Int) (-1:Int) root.Col root.Value) ({(⟨[]⟩:aM)with Nodes:=([]:List am)}:aM)

def da:Nat->ge->Int->Option Int
  |0,_,_=>none
  |fu+1,l,at1=>
    if((decide (at1<(0:Int)))||(decide ((l.Nodes.length:Int)<=at1)))then
    (some (0:Int))
    else
    ((ga l.Nodes at1).bind fun e=>
    (pP e.Op).bind fun r=>
    if(r==(0:Int))then
    (if((e.A==(-1:Int))&&(e.B==(-1:Int)))then
    (some (1:Int))
    else
    (some (0:Int)))
    else
    (if(r==(1:Int))then
    (if((e.A==(IntKind.i64.wrap (at1-(1:Int))))&&(e.B==(-1:Int)))then
    (((da fu) l e.A).bind fun r1=>
    if(decide ((0:Int)<r1))then
    (some (IntKind.i64.wrap (r1+(1:Int))))
    else
    (some (0:Int)))
    else
    (some (0:Int)))
    else
    (if(r==(2:Int))then
    (if(e.B==(IntKind.i64.wrap (at1-(1:Int))))then
    (((da fu) l e.B).bind fun r2=>
    if((decide ((0:Int)<r2))&&(e.A==(IntKind.i64.wrap (e.B-r2))))then
    (((da fu) l e.A).bind fun r3=>
    if(decide ((0:Int)<r3))then
    (some (IntKind.i64.wrap ((IntKind.i64.wrap (r3+r2))+(1:Int))))
    else
    (some (0:Int)))
    else
    (some (0:Int)))
    else
    (some (0:Int)))
    else
    (some (0:Int)))))

def Ba(l:ge)(at1:Int):Option Int:=
 da eI l at1

def zE(tag:Int):Option Int:=
  if((decide (tag<(1:Int)))||(decide ((23:Int)<tag)))then
  (some (-1:Int))
  else
  (if(decide (tag<=(3:Int)))then
  (some (0:Int))
  else
  (if(decide (tag<=(11:Int)))then
  (some (1:Int))
  else
  (some (2:Int))))

def uR(tag:Int):Option Int:=
  if((tag==(3:Int))||((decide ((8:Int)<=tag))&&(decide (tag<=(11:Int)))))then
  (some (-1:Int))
  else
  ((zE tag).bind fun r=>
  some r)

def uS(v:ap):Option Bool:=
 (oa v).bind fun r=>
 some (r&&(v.Kind !=(4:Int)))

def km(n:am):Option Bool:=
  if(n.Tag==(1:Int))then
  ((uS n.Value).bind fun r=>
  some (r&&(n.Col==(0:Int))))
  else
  (if(n.Tag==(2:Int))then
  (some (((decide (n.Value=(⟨(0:Int),(0:Int),(0:Int),[]⟩:ap)))&&(decide ((0:Int)<=n.Col)))&&(decide (n.Col<(16:Int)))))
  else
  (some ((decide (n.Value=(⟨(0:Int),(0:Int),(0:Int),[]⟩:ap)))&&(n.Col==(0:Int)))))

def iA:Nat->aM->Int->Option Int
  |0,_,_=>none
  |fu+1,e,place=>
    if((decide (place<(0:Int)))||(decide ((e.Nodes.length:Int)<=place)))then
    (some (0:Int))
    else
    ((ga e.Nodes place).bind fun e1=>
    (uR e1.Tag).bind fun r=>
    (if(!(decide (r<(0:Int))))then((km e1).bind fun r1=>
    some (!r1))else some true).bind fun t=>
    if t then
    (some (0:Int))
    else
    (if(r==(0:Int))then
    (if((e1.L !=(-1:Int))||(e1.R !=(-1:Int)))then
    (some (0:Int))
    else
    (some (1:Int)))
    else
    (((iA fu) e (IntKind.i64.wrap (place-(1:Int)))).bind fun r2=>
    if(r2==(0:Int))then
    (some (0:Int))
    else
    (if(r==(1:Int))then
    (if((e1.L !=(IntKind.i64.wrap (place-(1:Int))))||(e1.R !=(-1:Int)))then
    (some (0:Int))
    else
    (some (IntKind.i64.wrap (r2+(1:Int)))))
    else
    (((iA fu) e (IntKind.i64.wrap ((IntKind.i64.wrap (place-(1:Int)))-r2))).bind fun r3=>
    if(((r3==(0:Int))||(e1.R !=(IntKind.i64.wrap (place-(1:Int)))))||(e1.L !=(IntKind.i64.wrap ((IntKind.i64.wrap (place-(1:Int)))-r2))))then
    (some (0:Int))
    else
    (some (IntKind.i64.wrap ((IntKind.i64.wrap (r3+r2))+(1:Int)))))))))

def Bc(e:aM)(place:Int):Option Int:=
 iA eI e place

def uQ(e:aM):Option Bool:=
  (if((decide ((1:Int)<=(e.Nodes.length:Int)))&&(decide ((e.Nodes.length:Int)<=(1000:Int))))then((Bc e (IntKind.i64.wrap ((e.Nodes.length:Int)-(1:Int)))).bind fun r=>
  some (r==(e.Nodes.length:Int)))else some false).bind fun t=>
  some t

def pe(k:Int)(want:Int):Option Bool:=
 some ((k==want)||(k==(0:Int)))

def qW(tag:Int)(l:Int)(r:Int):Option (Int×Bool):=
  if((tag==(4:Int))||((decide ((12:Int)<=tag))&&(decide (tag<=(15:Int)))))then
  ((pe l (2:Int)).bind fun r1=>
  (if r1 then((pe r (2:Int)).bind fun r2=>
  some r2)else some false).bind fun t=>
  some ((2:Int),t))
  else
  (if((tag==(5:Int))||(decide ((22:Int)<=tag)))then
  ((pe l (1:Int)).bind fun r3=>
  (if r3 then((pe r (1:Int)).bind fun r4=>
  some r4)else some false).bind fun t1=>
  some ((1:Int),t1))
  else
  (if((tag==(6:Int))||(tag==(7:Int)))then
  (some ((1:Int),true))
  else
  (some ((1:Int),(((l==r)||(l==(0:Int)))||(r==(0:Int)))))))

def pD(nx2:(List Int)->Option (Int×Int))(e3:am)(own:List Int)(e6:Int)(r1:Int):Option (Int×Int):=
  (qW e3.Tag e6 r1).bind fun r2=>
  if(!r2.2)then
  (some ((0:Int),(201:Int)))
  else
  ((jb own ([r2.1])).bind fun own3=>
  nx2 own3)

def dc(kinds:(List Int)):List am->(List Int)->Option (Int×Int)
  |[],own=>
    (ga own (IntKind.i64.wrap ((own.length:Int)-(1:Int)))).bind fun e4=>
    some (e4,(0:Int))
  |e3::tl2,own=>
    if(e3.Tag==(1:Int))then
    ((jb own ([e3.Value.Kind])).bind fun own1=>
    (dc kinds tl2) own1)
    else
    (if(e3.Tag==(2:Int))then
    ((ga kinds e3.Col).bind fun e5=>
    (jb own ([e5])).bind fun own2=>
    (dc kinds tl2) own2)
    else
    ((ga own e3.L).bind fun e6=>
    if(decide ((0:Int)<=e3.R))then
    ((ga own e3.R).bind fun e7=>
    pD (dc kinds tl2) e3 own e6 e7)
    else
    (pD (dc kinds tl2) e3 own e6 (0:Int))))

def nC(e:aM)(kinds:(List Int)):List am->Option (Int×Int)
 |[]=>
  dc kinds e.Nodes ([]:List Int)
 |e2::tl1=>
  if((e2.Tag==(2:Int))&&(decide ((kinds.length:Int)<=e2.Col)))then
  (some ((0:Int),(2:Int)))
  else
  ((nC e kinds tl1))

def pC(e:aM)(kinds:(List Int)):List Int->Option (Int×Int)
 |[]=>
  nC e kinds e.Nodes
 |e1::tl=>
  if((decide (e1<(0:Int)))||(decide ((3:Int)<e1)))then
  (some ((0:Int),(2:Int)))
  else
  ((pC e kinds tl))

def qX(e:aM)(kinds:(List Int)):Option (Int×Int):=
 (uQ e).bind fun r=>
 if(!r)then
 (some ((0:Int),(200:Int)))
 else
 (pC e kinds kinds)

def rz(e:aM)(kinds:(List Int)):Option Bool:=
 (qX e kinds).bind fun r=>
 some ((r.2==(0:Int))&&((r.1==(0:Int))||(r.1==(1:Int))))

def lO(a1:fj)(kinds:(List Int)):Option (Int×Bool):=
  if(a1.Tag==(1:Int))then
  (some ((2:Int),((a1.Arg.Nodes.length:Int)==(0:Int))))
  else
  ((qX a1.Arg kinds).bind fun r=>
  if(((decide (a1.Tag<(1:Int)))||(decide ((5:Int)<a1.Tag)))||(r.2 !=(0:Int)))then
  (some ((0:Int),false))
  else
  (if(((a1.Tag==(3:Int))&&(r.1 !=(2:Int)))&&(r.1 !=(0:Int)))then
  (some ((0:Int),false))
  else
  (if(decide ((4:Int)<=a1.Tag))then
  (some (r.1,true))
  else
  (some ((2:Int),true)))))

def iI(n:aa):Nat->Bool->Int->Option ((List Int)×Bool)
  |0,_,_=>none
  |n1+1,ok,i=>
    if(decide (i<(n.Kinds.length:Int)))then
    ((if ok then((ga n.Kinds i).bind fun e=>
    some (decide ((1:Int)<=e)))else some false).bind fun t=>
    (if t then((ga n.Kinds i).bind fun e1=>
    some (decide (e1<=(3:Int))))else some false).bind fun t1=>
    (iI n n1) t1 (IntKind.i64.wrap (i+(1:Int))))
    else
    (some (n.Kinds,((((ok&&(decide ((0:Int)<=n.Table)))&&(decide (n.Table<=(3:Int))))&&(decide ((1:Int)<=(n.Kinds.length:Int))))&&(decide ((n.Kinds.length:Int)<=(4:Int))))))

def k8(n:aa)(a1:(List Int)):Nat->(List Int)->Bool->Int->Option ((List Int)×Bool)
  |0,_,_,_=>none
  |n3+1,out3,ok1,i2=>
    if(decide (i2<(n.Aggs.length:Int)))then
    ((ga n.Aggs i2).bind fun e4=>
    (lO e4 a1).bind fun r2=>
    (jb out3 ([r2.1])).bind fun out4=>
    (k8 n a1 n3) out4 (ok1&&r2.2) (IntKind.i64.wrap (i2+(1:Int))))
    else
    (some (out3,(((ok1&&(decide ((n.Keys.length:Int)<=(3:Int))))&&(decide ((n.Aggs.length:Int)<=(12:Int))))&&(decide ((0:Int)<(out3.length:Int))))))

def k9(n:aa)(a1:(List Int)):Nat->(List Int)->Int->Option ((List Int)×Bool)
  |0,_,_=>none
  |n2+1,out1,i1=>
    if(decide (i1<(n.Keys.length:Int)))then
    ((ga n.Keys i1).bind fun e2=>
    if((decide (e2<(0:Int)))||(decide ((a1.length:Int)<=e2)))then
    (some ([],false))
    else
    ((ga a1 e2).bind fun e3=>
    (jb out1 ([e3])).bind fun out2=>
    (k9 n a1 n2) out2 (IntKind.i64.wrap (i1+(1:Int)))))
    else
    (k8 n a1 eI out1 true (0:Int))

def k7(n:aa)(a1:(List Int)):Nat->(List Int)->Bool->Int->Option ((List Int)×Bool)
  |0,_,_,_=>none
  |n4+1,out5,ok2,i3=>
    if(decide (i3<(n.Items.length:Int)))then
    ((ga n.Items i3).bind fun e5=>
    (qX e5 a1).bind fun r3=>
    (jb out5 ([r3.1])).bind fun out6=>
    (k7 n a1 n4) out6 (ok2&&(r3.2==(0:Int))) (IntKind.i64.wrap (i3+(1:Int))))
    else
    (some (out5,((ok2&&(decide ((1:Int)<=(out5.length:Int))))&&(decide ((out5.length:Int)<=(16:Int))))))

def oK(b:(List Int))(nx4:Nat->(List Int)->Bool->Option ((List Int)×Bool))(i4:Nat)(out7:List Int)(ok3:Bool)(k:Int):Option ((List Int)×Bool):=
  (jb out7 ([k])).bind fun out8=>
  (if ok3 then((ga b (i4:Int)).bind fun e7=>
  (if(!(e7==k))then((ga b (i4:Int)).bind fun e8=>
  some (e8==(0:Int)))else some true).bind fun t3=>
  some t3)else some false).bind fun t2=>
  nx4 (i4+1) out8 t2

def jH(b:(List Int)):List Int->Nat->(List Int)->Bool->Option ((List Int)×Bool)
  |[],i4,out7,ok3=>
    some (out7,ok3)
  |e6::tl,i4,out7,ok3=>
    if(e6==(0:Int))then
    ((ga b (i4:Int)).bind fun e9=>
    oK b (jH b tl) i4 out7 ok3 e9)
    else
    (oK b (jH b tl) i4 out7 ok3 e6)

def iH(n:aa)(a1:(List Int)):Nat->Bool->Int->Option ((List Int)×Bool)
  |0,_,_=>none
  |n5+1,ok4,i5=>
    if(decide (i5<(n.Order.length:Int)))then
    ((if ok4 then((ga n.Order i5).bind fun e10=>
    some (decide ((0:Int)<=e10.Col)))else some false).bind fun t4=>
    (if t4 then((ga n.Order i5).bind fun e11=>
    some (decide (e11.Col<(a1.length:Int))))else some false).bind fun t5=>
    (iH n a1 n5) t5 (IntKind.i64.wrap (i5+(1:Int))))
    else
    (some (a1,(((ok4&&(decide ((n.Order.length:Int)<=(3:Int))))&&(decide ((-1:Int)<=n.Limit)))&&(decide (n.Limit<=(2147483647:Int))))))

def cn(n:aa)(a1:(List Int))(b:(List Int)):Option ((List Int)×Bool):=
  if(n.Op==(1:Int))then
  (iI n eI true (0:Int))
  else
  (if(n.Op==(2:Int))then
  ((jb ([]:List Int) a1).bind fun l=>
  (jb l b).bind fun out=>
  (rz n.Cond out).bind fun r=>
  some (out,r))
  else
  (if(n.Op==(3:Int))then
  ((rz n.Cond a1).bind fun r1=>
  some (a1,r1))
  else
  (if(n.Op==(4:Int))then
  (k9 n a1 eI ([]:List Int) (0:Int))
  else
  (if(n.Op==(5:Int))then
  (k7 n a1 eI ([]:List Int) true (0:Int))
  else
  (if(n.Op==(6:Int))then
  (some (a1,true))
  else
  (if(n.Op==(7:Int))then
  (if((a1.length:Int) !=(b.length:Int))then
  (some ([],false))
  else
  (jH b a1 0 ([]:List Int) true))
  else
  (iH n a1 eI true (0:Int))))))))

def jJ(l:ge)(at1:Int)(e1:aa)(a1:(List Int))(b1:(List Int)):Option ((List Int)×Bool):=
 (cn e1 a1 b1).bind fun r2=>
 if(((e1.Op==(8:Int))&&(at1 !=(IntKind.i64.wrap ((l.Nodes.length:Int)-(1:Int)))))||(decide ((16:Int)<(r2.1.length:Int))))then
 (some ([],false))
 else
 (some (r2.1,r2.2))

def la(self__:ge->Int->Option ((List Int)×Bool))(l:ge)(at1:Int)(e1:aa)(a1:(List Int)):Option ((List Int)×Bool):=
  if(decide ((0:Int)<=e1.B))then
  ((self__ l e1.B).bind fun r3=>
  if(!r3.2)then
  (some ([],false))
  else
  (jJ l at1 e1 a1 r3.1))
  else
  (jJ l at1 e1 a1 ([]))

def fU:Nat->ge->Int->Option ((List Int)×Bool)
  |0,_,_=>none
  |fu+1,l,at1=>
    (Ba l at1).bind fun r=>
    (if(!(r==(0:Int)))then((ga l.Nodes at1).bind fun e=>
    (n9 e).bind fun r1=>
    some (!r1))else some true).bind fun t=>
    if t then
    (some ([],false))
    else
    ((ga l.Nodes at1).bind fun e1=>
    if(decide ((0:Int)<=e1.A))then
    (((fU fu) l e1.A).bind fun r4=>
    if(!r4.2)then
    (some ([],false))
    else
    (la (fU fu) l at1 e1 r4.1))
    else
    (la (fU fu) l at1 e1 ([])))

def mM(l:ge)(at1:Int):Option ((List Int)×Bool):=
 fU eI l at1

def mn(nx1:aa->Option ((List Int)×Bool))(p:aa)(e2:am):Option ((List Int)×Bool):=
 (wT e2 ([])).bind fun r2=>
 (jb p.Items ([r2])).bind fun l7=>
 nx1 ({p with Items:=l7}:aa)

def dp(nx:Nat->aa->ge->Option ((List Int)×Bool))(i:Nat)(n1:aa)(l:ge):List Int->aa->Option ((List Int)×Bool)
 |[],p=>
  (jb l.Nodes ([(⟨(1:Int),(-1:Int),(-1:Int),(0:Int),[(1:Int),(2:Int),(3:Int)],false,(⟨[]⟩:aM),[],[],[],[],(0:Int)⟩:aa),p])).bind fun l5=>
  if((i:Int)==(0:Int))then
  (nx (i+1) (aa.mk n1.Op (IntKind.i64.wrap ((l5.length:Int)-(1:Int))) n1.B n1.Table n1.Kinds n1.Left n1.Cond n1.Keys n1.Aggs n1.Items n1.Order n1.Limit) ({l with Nodes:=l5}:ge))
  else
  (nx (i+1) (aa.mk n1.Op n1.A (IntKind.i64.wrap ((l5.length:Int)-(1:Int))) n1.Table n1.Kinds n1.Left n1.Cond n1.Keys n1.Aggs n1.Items n1.Order n1.Limit) ({l with Nodes:=l5}:ge))
 |e1::tl1,p=>
  if(decide ((0:Int)<e1))then
  (mn (dp nx i n1 l tl1) p (⟨(2:Int),(0:Int),(0:Int),(IntKind.i64.wrap (e1-(1:Int))),(⟨(0:Int),(0:Int),(0:Int),[]⟩:ap)⟩:am))
  else
  (mn (dp nx i n1 l tl1) p (⟨(1:Int),(0:Int),(0:Int),(0:Int),(⟨(0:Int),(0:Int),(0:Int),[]⟩:ap)⟩:am))

def bL:List (List Int)->Nat->aa->ge->Option ((List Int)×Bool)
 |[],i,n1,l=>
  (jb l.Nodes ([n1])).bind fun l2=>
  (mM ({l with Nodes:=l2}:ge) (IntKind.i64.wrap ((l2.length:Int)-(1:Int)))).bind fun r=>
  some (r.1,r.2)
 |e::tl,i,n1,l=>
  (wQ e).bind fun r1=>
  if r1 then
  (some ([],false))
  else
  (dp (bL tl) i n1 l e ({(⟨(5:Int),(l.Nodes.length:Int),(-1:Int),(0:Int),[],false,(⟨[]⟩:aM),[],[],[],[],(0:Int)⟩:aa)with Items:=([]:List aM)}:aa))

def cZ(n:aa)(parts:(List (List Int))):Option ((List Int)×Bool):=
 bL parts 0 n ({(⟨[]⟩:ge)with Nodes:=([]:List aa)}:ge)

def k5(n:aa):List fj->Nat->(List Int)->Option (List Int)
  |[],i,out1=>
    some out1
  |e::tl,i,out1=>
    if(e.Tag==(3:Int))then
    ((ga out1 (IntKind.i64.wrap ((n.Keys.length:Int)+(i:Int)))).bind fun e1=>
    (some (out1.set (IntKind.i64.wrap ((n.Keys.length:Int)+(i:Int))).toNat (4:Int))).bind fun st=>
    (k5 n tl) (i+1) st)
    else
    ((k5 n tl) (i+1) out1)

def nA(n:aa)(kinds:(List Int)):Option (List Int):=
 (jb ([]:List Int) kinds).bind fun out=>
 k5 n n.Aggs 0 out

def oH(nx1:Nat->(List Int)->Option ((List Int)×Bool))(i1:Nat)(out1:List Int)(e2:Int)(x1:Bool):Option ((List Int)×Bool):=
  if x1 then
  (if(e2==(4:Int))then
  (some ([],false))
  else
  ((jb out1 ([e2])).bind fun out4=>
  nx1 (i1+1) out4))
  else
  (some ([],false))

def oI(nx1:Nat->(List Int)->Option ((List Int)×Bool))(i1:Nat)(e1:fj)(out1:List Int)(e2:Int)(x:Bool):Option ((List Int)×Bool):=
  if x then
  (if(e2 !=(2:Int))then
  (some ([],false))
  else
  ((jb out1 ([e2])).bind fun out2=>
  nx1 (i1+1) out2))
  else
  (if(e1.Tag==(3:Int))then
  (if(e2 !=(4:Int))then
  (some ([],false))
  else
  ((jb out1 ([(2:Int)])).bind fun out3=>
  nx1 (i1+1) out3))
  else
  (if(e1.Tag==(4:Int))then
  (oH nx1 i1 out1 e2 (e1.Tag==(4:Int)))
  else
  (oH nx1 i1 out1 e2 (e1.Tag==(5:Int)))))

def fT(n:aa)(a1:(List Int)):List fj->Nat->(List Int)->Option ((List Int)×Bool)
  |[],i1,out1=>
    some (out1,true)
  |e1::tl1,i1,out1=>
    (ga a1 (IntKind.i64.wrap ((n.Keys.length:Int)+(i1:Int)))).bind fun e2=>
    if(decide ((0:Int)<(e1.Arg.Nodes.length:Int)))then
    (some ([],false))
    else
    (if(e1.Tag==(1:Int))then
    (oI (fT n a1 tl1) i1 e1 out1 e2 (e1.Tag==(1:Int)))
    else
    (oI (fT n a1 tl1) i1 e1 out1 e2 (e1.Tag==(2:Int))))

def mL(n:aa)(a1:(List Int)):List Int->Nat->(List Int)->Option ((List Int)×Bool)
  |[],i,out=>
    fT n a1 n.Aggs 0 out
  |e::tl,i,out=>
    (if(!(e !=(i:Int)))then((ga a1 (i:Int)).bind fun e3=>
    some (e3==(4:Int)))else some true).bind fun t=>
    if t then
    (some ([],false))
    else
    ((ga a1 (i:Int)).bind fun e4=>
    (jb out ([e4])).bind fun out5=>
    (mL n a1 tl) (i+1) out5)

def n8(n:aa)(a1:(List Int)):Option ((List Int)×Bool):=
 if((((decide ((3:Int)<(n.Keys.length:Int)))||(decide ((12:Int)<(n.Aggs.length:Int))))||((IntKind.i64.wrap ((n.Keys.length:Int)+(n.Aggs.length:Int))) !=(a1.length:Int)))||((a1.length:Int)==(0:Int)))then
 (some ([],false))
 else
 (mL n a1 n.Keys 0 ([]:List Int))

def cR(l:(List aa))(nx:Nat->(List (List Int))->Option ((List (List Int))×Int))(i:Nat)(e:aa)(out:List (List Int))(ok:Bool)(k:(List Int)):Option ((List (List Int))×Int):=
  if((!ok)||(((e.Op==(8:Int))||(e.Op==(10:Int)))&&((i:Int) !=(IntKind.i64.wrap ((l.length:Int)-(1:Int))))))then
  (some ([],(i:Int)))
  else
  ((jb out ([k])).bind fun out1=>
  nx (i+1) out1)

def dr(l:(List aa))(nx:Nat->(List (List Int))->Option ((List (List Int))×Int))(i:Nat)(e:aa)(out:List (List Int))(parts1:List (List Int)):Option ((List (List Int))×Int):=
  if(e.Op==(9:Int))then
  ((uM e).bind fun r3=>
  cR l nx i e out r3.2 r3.1)
  else
  (if(e.Op==(10:Int))then
  ((cZ (aa.mk (4:Int) e.A e.B e.Table e.Kinds e.Left e.Cond e.Keys e.Aggs e.Items e.Order e.Limit) parts1).bind fun r4=>
  if r4.2 then
  ((nA e r4.1).bind fun r5=>
  cR l nx i e out r4.2 r5)
  else
  (cR l nx i e out r4.2 r4.1))
  else
  (if(e.Op==(11:Int))then
  ((ga parts1 (0:Int)).bind fun e1=>
  (n8 e e1).bind fun r6=>
  (if r6.2 then((ga l e.A).bind fun e2=>
  some (e2.Op==(9:Int)))else some false).bind fun t1=>
  cR l nx i e out t1 r6.1)
  else
  (if(e.Op==(1:Int))then
  ((cZ e ([])).bind fun r7=>
  cR l nx i e out r7.2 r7.1)
  else
  ((cZ e parts1).bind fun r8=>
  cR l nx i e out r8.2 r8.1))))

def oJ(l:(List aa))(nx:Nat->(List (List Int))->Option ((List (List Int))×Int))(i:Nat)(e:aa)(out:List (List Int))(parts:List (List Int)):Option ((List (List Int))×Int):=
  if(decide ((0:Int)<=e.B))then
  ((ga out e.B).bind fun e3=>
  (jb parts ([e3])).bind fun parts2=>
  dr l nx i e out parts2)
  else
  (dr l nx i e out parts)

def cG(l:(List aa)):List aa->Nat->(List (List Int))->Option ((List (List Int))×Int)
  |[],i,out=>
    (tz l (IntKind.i64.wrap ((l.length:Int)-(1:Int)))).bind fun r=>
    if(r !=(l.length:Int))then
    (some ([],(IntKind.i64.wrap ((l.length:Int)-(1:Int)))))
    else
    (some (out,(-1:Int)))
  |e::tl,i,out=>
    (tz l (i:Int)).bind fun r1=>
    (if(decide ((0:Int)<r1))then((n7 e).bind fun r2=>
    some r2)else some false).bind fun t=>
    if t then
    (if(decide ((0:Int)<=e.A))then
    ((ga out e.A).bind fun e4=>
    (jb ([]:List (List Int)) ([e4])).bind fun parts3=>
    oJ l (cG l tl) i e out parts3)
    else
    (oJ l (cG l tl) i e out ([]:List (List Int))))
    else
    (cR l (cG l tl) i e out t ([]))

def uO(l:(List aa)):Option ((List (List Int))×Int):=
 if((decide ((l.length:Int)<(1:Int)))||(decide ((60:Int)<(l.length:Int))))then
 (some ([],(0:Int)))
 else
 (cG l l 0 ([]:List (List Int)))

def qZ(b:(List Int)):Option af:=
 (tn (b.length:Int) (0:Int)).bind fun mk=>
 (some (ni mk b)).bind fun cp=>
 some ({(⟨(⟨(0:Int),(0:Int)⟩:kK),mk⟩:af)with own:=cp}:af)

def tH(b:(List Int)):Option (aJ×af):=
 (qZ b).bind fun r=>
 some ((⟨(⟨(⟨(0:Int),(0:Int)⟩:kK),[]⟩:af),b,false⟩:aJ),r)

def gm(r:af):Option Int:=
 if false then
 (some (1:Int))
 else
 (some r.place.why)

def cW(r:aJ)(in1:af):Option Bool:=
  if(!r.bad)then
  ((gm in1).bind fun r1=>
  some (r1==(0:Int)))
  else
  (some false)

def fJ(r:af):Option Int:=
 if false then
 (some (0:Int))
 else
 (some (IntKind.i64.wrap ((r.own.length:Int)-r.place.at_)))

def io(r:aJ)(in1:af):Option Bool:=
  (cW r in1).bind fun r1=>
  if r1 then
  ((fJ in1).bind fun r2=>
  some (r2==(0:Int)))
  else
  (some false)

def o6(x:Int)(c:Int):Option Int:=
 some (IntKind.u64.wrap ((IntKind.u64.wrap (x*2^(min (Int.toNat (8:Int)) IntKind.u64.bits)))+(IntKind.u64.wrap c)))

def eC(n:Int):Nat->Int->Int->af->Option (af×Int)
  |0,_,_,_=>none
  |n1+1,x1,x2,ob=>
    if(decide (x1<n))then
    ((ga ob.own ob.place.at_).bind fun e=>
    (o6 x2 e).bind fun r2=>
    (eC n n1) (IntKind.i64.wrap (x1+(1:Int))) r2 ({ob with place:=({ob.place with at_:=(IntKind.i64.wrap (ob.place.at_+(1:Int)))}:kK)}:af))
    else
    (some (ob,x2))

def mi(r:af)(n:Int)(x:Int):Option (af×Int):=
  if(r.place.why !=(0:Int))then
  (some (r,x))
  else
  (if(decide (n<(0:Int)))then
  (some (({r with place:=({r.place with why:=(2:Int)}:kK)}:af),x))
  else
  ((fJ r).bind fun r1=>
  if(decide (r1<n))then
  (some (({r with place:=({r.place with why:=(7:Int)}:kK)}:af),x))
  else
  (eC n eI (0:Int) x r)))

def cb(r:af)(n:Int):Option (Int×af):=
 (mi r n (0:Int)).bind fun r1=>
 some (r1.2,r1.1)

def cq(r:af):Option (Int×af):=
 (cb r (1:Int)).bind fun r1=>
 some ((IntKind.u8.wrap r1.1),r1.2)

def bl(r:aJ)(in1:af):Option (Int×af):=
 (cq in1).bind fun r1=>
 some ((IntKind.i64.wrap r1.1),r1.2)

def mR(out:List Int)(ob:af):Option ((List Int)×af):=
 some (out,ob)

def go(r:aJ)(n:Int):Nat->(List Int)->Int->af->Option ((List Int)×af)
  |0,_,_,_=>none
  |n1+1,out1,x,ob1=>
    if(decide (x<n))then
    ((cW r ob1).bind fun r1=>
    if(!r1)then
    (mR out1 ob1)
    else
    ((bl r ob1).bind fun r2=>
    (jb out1 ([r2.1])).bind fun out2=>
    (go r n n1) out2 (IntKind.i64.wrap (x+(1:Int))) r2.2))
    else
    (mR out1 ob1)

def kw(r:aJ)(in1:af)(n:Int):Option ((List Int)×af):=
 go r n eI ([]:List Int) (0:Int) in1

def gn(r:aJ)(in1:af):Option ((List Int)×af):=
 (bl r in1).bind fun r1=>
 (kw r r1.2 r1.1).bind fun r2=>
 some (r2.1,r2.2)

def iU(r:aJ)(in1:af):Option (Bool×aJ×af):=
 (cq in1).bind fun r1=>
 some ((r1.1==(1:Int)),({r with bad:=(r.bad||(decide ((1:Int)<r1.1)))}:aJ),r1.2)

def m8(r:af):Option (Int×af):=
 (cb r (4:Int)).bind fun r1=>
 some ((IntKind.u32.wrap r1.1),r1.2)

def jB(r:af):Option (Int×af):=
 (cb r (2:Int)).bind fun r1=>
 some ((IntKind.u16.wrap r1.1),r1.2)

def lR(t:(List Int)):Option (Int×(List Int)):=
  if((t.length:Int)==(0:Int))then
  (some ((-1:Int),t))
  else
  ((ga t (IntKind.i64.wrap ((t.length:Int)-(1:Int)))).bind fun e=>
  (dz t 0 (IntKind.i64.wrap ((t.length:Int)-(1:Int)))).bind fun y=>
  some (e,y))

def hX(at1:Int)(b3:Int)(a1:Int)(x1:List Int)(ob1:aJ):Option (Int×Int×aJ×(List Int)):=
 (jb x1 ([at1])).bind fun l3=>
 some (a1,b3,ob1,l3)

def jT(n:Int)(at1:Int)(b3:Int)(x:List Int)(ob:aJ):Option (Int×Int×aJ×(List Int)):=
  if(decide ((1:Int)<=n))then
  ((lR x).bind fun r1=>
  hX at1 b3 r1.1 r1.2 ({ob with bad:=(ob.bad||(decide (r1.1<(0:Int))))}:aJ))
  else
  (hX at1 b3 (-1:Int) x ob)

def ci(r:aJ)(in1:af)(t:(List Int))(n:Int)(at1:Int):Option (Int×Int×aJ×(List Int)):=
  if(n==(2:Int))then
  ((lR t).bind fun r2=>
  jT n at1 r2.1 r2.2 ({r with bad:=(r.bad||(decide (r2.1<(0:Int))))}:aJ))
  else
  (jT n at1 (-1:Int) t r)

def mt(r:aJ)(in1:af):Option (List Int):=
 (fJ in1).bind fun r1=>
 (dz r.all (IntKind.i64.wrap ((r.all.length:Int)-r1)) (r.all.length:Int)).bind fun y=>
 some y

def nQ(out:(List Int))(c:Int):Option (List Int):=
 (jb out ([c])).bind fun l1=>
 some l1

def ez(n:Int):Nat->Int->(List Int)->af->Option (af×(List Int))
  |0,_,_,_=>none
  |n1+1,x,x1,ob=>
    if(decide (x<n))then
    ((ga ob.own ob.place.at_).bind fun e=>
    (nQ x1 e).bind fun r2=>
    (ez n n1) (IntKind.i64.wrap (x+(1:Int))) r2 ({ob with place:=({ob.place with at_:=(IntKind.i64.wrap (ob.place.at_+(1:Int)))}:kK)}:af))
    else
    (some (ob,x1))

def mh(r:af)(n:Int)(out:(List Int)):Option (af×(List Int)):=
  if(r.place.why !=(0:Int))then
  (some (r,out))
  else
  (if(decide (n<(0:Int)))then
  (some (({r with place:=({r.place with why:=(2:Int)}:kK)}:af),out))
  else
  ((fJ r).bind fun r1=>
  if(decide (r1<n))then
  (some (({r with place:=({r.place with why:=(7:Int)}:kK)}:af),out))
  else
  (ez n eI (0:Int) out r)))

def il(r:af)(n:Int):Option ((List Int)×af):=
 (mh r n ([]:List Int)).bind fun r1=>
 some (r1.2,r1.1)

def iT(r:aJ)(in1:af)(n:Int)(e:Int):Option (aJ×af):=
  if(e !=(0:Int))then
  (some (({r with bad:=true}:aJ),in1))
  else
  ((il in1 n).bind fun r1=>
  some (r,r1.2))

def tW(b:(List Int)):Option (cX×af):=
 (qZ b).bind fun r=>
 some ((⟨(⟨(⟨(0:Int),(0:Int)⟩:kK),[]⟩:af),(b.length:Int),false⟩:cX),r)

def fC(r:af):Option (Int×af):=
 (cb r (8:Int)).bind fun r1=>
 some (r1.1,r1.2)

def cI(t:cX)(in1:af)(is1:Bool):Option cX:=
  if t.bad then
  (some ({t with bad:=true}:cX))
  else
  ((gm in1).bind fun r=>
  some ({t with bad:=((r==(0:Int))&&(!is1))}:cX))

def fg(t:cX)(in1:af):Option Bool:=
  if(!t.bad)then
  ((gm in1).bind fun r=>
  some (r==(0:Int)))
  else
  (some false)

def ky(t:cX)(in1:af):Option (ap×cX×af):=
  (cq in1).bind fun r=>
  (cI t r.2 (decide ((IntKind.i64.wrap r.1)<=(4:Int)))).bind fun r1=>
  (fg r1 r.2).bind fun r2=>
  if(!r2)then
  (some ((ap.mk (IntKind.i64.wrap r.1) (⟨(0:Int),(0:Int),(0:Int),[]⟩:ap).N (⟨(0:Int),(0:Int),(0:Int),[]⟩:ap).U (⟨(0:Int),(0:Int),(0:Int),[]⟩:ap).S),r1,r.2))
  else
  (if((IntKind.i64.wrap r.1)==(1:Int))then
  ((cq r.2).bind fun r3=>
  (gi (ap.mk (IntKind.i64.wrap r.1) (IntKind.i64.wrap r3.1) (⟨(0:Int),(0:Int),(0:Int),[]⟩:ap).U (⟨(0:Int),(0:Int),(0:Int),[]⟩:ap).S)).bind fun r4=>
  (cI r1 r3.2 (r4==(0:Int))).bind fun r5=>
  some ((ap.mk (IntKind.i64.wrap r.1) (IntKind.i64.wrap r3.1) (⟨(0:Int),(0:Int),(0:Int),[]⟩:ap).U (⟨(0:Int),(0:Int),(0:Int),[]⟩:ap).S),r5,r3.2))
  else
  (if((IntKind.i64.wrap r.1)==(2:Int))then
  ((fC r.2).bind fun r6=>
  (gi (ap.mk (IntKind.i64.wrap r.1) (IntKind.i64.wrap r6.1) (⟨(0:Int),(0:Int),(0:Int),[]⟩:ap).U (⟨(0:Int),(0:Int),(0:Int),[]⟩:ap).S)).bind fun r7=>
  (cI r1 r6.2 (r7==(0:Int))).bind fun r8=>
  some ((ap.mk (IntKind.i64.wrap r.1) (IntKind.i64.wrap r6.1) (⟨(0:Int),(0:Int),(0:Int),[]⟩:ap).U (⟨(0:Int),(0:Int),(0:Int),[]⟩:ap).S),r8,r6.2))
  else
  (if((IntKind.i64.wrap r.1)==(3:Int))then
  ((cq r.2).bind fun r9=>
  (cI r1 r9.2 (decide ((IntKind.i64.wrap r9.1)<=(40:Int)))).bind fun r10=>
  (fg r10 r9.2).bind fun r11=>
  if r11 then
  ((il r9.2 (IntKind.i64.wrap r9.1)).bind fun r12=>
  (gi (ap.mk (IntKind.i64.wrap r.1) (⟨(0:Int),(0:Int),(0:Int),[]⟩:ap).N (⟨(0:Int),(0:Int),(0:Int),[]⟩:ap).U (kM r12.1))).bind fun r13=>
  (cI r10 r12.2 (r13==(0:Int))).bind fun r14=>
  some ((ap.mk (IntKind.i64.wrap r.1) (⟨(0:Int),(0:Int),(0:Int),[]⟩:ap).N (⟨(0:Int),(0:Int),(0:Int),[]⟩:ap).U (kM r12.1)),r14,r12.2))
  else
  ((gi (ap.mk (IntKind.i64.wrap r.1) (⟨(0:Int),(0:Int),(0:Int),[]⟩:ap).N (⟨(0:Int),(0:Int),(0:Int),[]⟩:ap).U (⟨(0:Int),(0:Int),(0:Int),[]⟩:ap).S)).bind fun r15=>
  (cI r10 r9.2 (r15==(0:Int))).bind fun r16=>
  some ((ap.mk (IntKind.i64.wrap r.1) (⟨(0:Int),(0:Int),(0:Int),[]⟩:ap).N (⟨(0:Int),(0:Int),(0:Int),[]⟩:ap).U (⟨(0:Int),(0:Int),(0:Int),[]⟩:ap).S),r16,r9.2)))
  else
  (if((IntKind.i64.wrap r.1)==(4:Int))then
  ((fC r.2).bind fun r17=>
  (fC r17.2).bind fun r18=>
  (gi (ap.mk (IntKind.i64.wrap r.1) (IntKind.i64.wrap r17.1) r18.1 (⟨(0:Int),(0:Int),(0:Int),[]⟩:ap).S)).bind fun r19=>
  (cI r1 r18.2 (r19==(0:Int))).bind fun r20=>
  some ((ap.mk (IntKind.i64.wrap r.1) (IntKind.i64.wrap r17.1) r18.1 (⟨(0:Int),(0:Int),(0:Int),[]⟩:ap).S),r20,r18.2))
  else
  ((gi (ap.mk (IntKind.i64.wrap r.1) (⟨(0:Int),(0:Int),(0:Int),[]⟩:ap).N (⟨(0:Int),(0:Int),(0:Int),[]⟩:ap).U (⟨(0:Int),(0:Int),(0:Int),[]⟩:ap).S)).bind fun r21=>
  (cI r1 r.2 (r21==(0:Int))).bind fun r22=>
  some ((ap.mk (IntKind.i64.wrap r.1) (⟨(0:Int),(0:Int),(0:Int),[]⟩:ap).N (⟨(0:Int),(0:Int),(0:Int),[]⟩:ap).U (⟨(0:Int),(0:Int),(0:Int),[]⟩:ap).S),r22,r.2))))))

def jU(t:cX)(in1:af)(p:ap):Option (ap×Int×Int):=
  if t.bad then
  (some ((⟨(0:Int),(0:Int),(0:Int),[]⟩:ap),(0:Int),(160:Int)))
  else
  ((gm in1).bind fun r=>
  if(r !=(0:Int))then
  ((gm in1).bind fun r1=>
  some ((⟨(0:Int),(0:Int),(0:Int),[]⟩:ap),(0:Int),r1))
  else
  ((fJ in1).bind fun r2=>
  some (p,(IntKind.i64.wrap (t.all-r2)),(0:Int))))

def nK(b:(List Int)):Option (ap×Int×Int):=
 (tW b).bind fun r=>
 (ky r.1 r.2).bind fun r1=>
 (jU r1.2.1 r1.2.2 r1.1).bind fun r2=>
 some (r2.1,r2.2.1,r2.2.2)

def im(r:aJ)(in1:af):Option (ap×aJ×af):=
 (mt r in1).bind fun r1=>
 (nK r1).bind fun r2=>
 (iT r in1 r2.2.1 r2.2.2).bind fun r3=>
 some (r2.1,r3.1,r3.2)

def ol(tag:Int):Option Int:=
  if((tag==(1:Int))||(tag==(2:Int)))then
  (some (0:Int))
  else
  (if(decide ((12:Int)<=tag))then
  (some (2:Int))
  else
  (some (1:Int)))

def kT(r:aJ)(in1:af)(t:(List Int))(at1:Int):Option (am×aJ×af×(List Int)×Int):=
  (bl r in1).bind fun r1=>
  if(((⟨r1.1,(0:Int),(0:Int),(0:Int),(⟨(0:Int),(0:Int),(0:Int),[]⟩:ap)⟩:am).Tag)==(2:Int))then
  ((bl r r1.2).bind fun r2=>
  (ol ((⟨r1.1,(0:Int),(0:Int),(0:Int),(⟨(0:Int),(0:Int),(0:Int),[]⟩:ap)⟩:am).Tag)).bind fun r3=>
  (ci r r2.2 t r3 at1).bind fun r4=>
  some ((am.mk ({(am.mk (⟨r1.1,(0:Int),(0:Int),(0:Int),(⟨(0:Int),(0:Int),(0:Int),[]⟩:ap)⟩:am).Tag (⟨r1.1,(0:Int),(0:Int),(0:Int),(⟨(0:Int),(0:Int),(0:Int),[]⟩:ap)⟩:am).L (⟨r1.1,(0:Int),(0:Int),(0:Int),(⟨(0:Int),(0:Int),(0:Int),[]⟩:ap)⟩:am).R r2.1 (⟨r1.1,(0:Int),(0:Int),(0:Int),(⟨(0:Int),(0:Int),(0:Int),[]⟩:ap)⟩:am).Value)with L:=r4.1}:am).Tag ({(am.mk (⟨r1.1,(0:Int),(0:Int),(0:Int),(⟨(0:Int),(0:Int),(0:Int),[]⟩:ap)⟩:am).Tag (⟨r1.1,(0:Int),(0:Int),(0:Int),(⟨(0:Int),(0:Int),(0:Int),[]⟩:ap)⟩:am).L (⟨r1.1,(0:Int),(0:Int),(0:Int),(⟨(0:Int),(0:Int),(0:Int),[]⟩:ap)⟩:am).R r2.1 (⟨r1.1,(0:Int),(0:Int),(0:Int),(⟨(0:Int),(0:Int),(0:Int),[]⟩:ap)⟩:am).Value)with L:=r4.1}:am).L r4.2.1 ({(am.mk (⟨r1.1,(0:Int),(0:Int),(0:Int),(⟨(0:Int),(0:Int),(0:Int),[]⟩:ap)⟩:am).Tag (⟨r1.1,(0:Int),(0:Int),(0:Int),(⟨(0:Int),(0:Int),(0:Int),[]⟩:ap)⟩:am).L (⟨r1.1,(0:Int),(0:Int),(0:Int),(⟨(0:Int),(0:Int),(0:Int),[]⟩:ap)⟩:am).R r2.1 (⟨r1.1,(0:Int),(0:Int),(0:Int),(⟨(0:Int),(0:Int),(0:Int),[]⟩:ap)⟩:am).Value)with L:=r4.1}:am).Col ({(am.mk (⟨r1.1,(0:Int),(0:Int),(0:Int),(⟨(0:Int),(0:Int),(0:Int),[]⟩:ap)⟩:am).Tag (⟨r1.1,(0:Int),(0:Int),(0:Int),(⟨(0:Int),(0:Int),(0:Int),[]⟩:ap)⟩:am).L (⟨r1.1,(0:Int),(0:Int),(0:Int),(⟨(0:Int),(0:Int),(0:Int),[]⟩:ap)⟩:am).R r2.1 (⟨r1.1,(0:Int),(0:Int),(0:Int),(⟨(0:Int),(0:Int),(0:Int),[]⟩:ap)⟩:am).Value)with L:=r4.1}:am).Value),r4.2.2.1,r2.2,r4.2.2.2,(IntKind.i64.wrap (at1+(1:Int)))))
  else
  (if(((⟨r1.1,(0:Int),(0:Int),(0:Int),(⟨(0:Int),(0:Int),(0:Int),[]⟩:ap)⟩:am).Tag)==(1:Int))then
  ((im r r1.2).bind fun r5=>
  (ol ((⟨r1.1,(0:Int),(0:Int),(0:Int),(⟨(0:Int),(0:Int),(0:Int),[]⟩:ap)⟩:am).Tag)).bind fun r6=>
  (ci r5.2.1 r5.2.2 t r6 at1).bind fun r7=>
  some ((am.mk ({(am.mk (⟨r1.1,(0:Int),(0:Int),(0:Int),(⟨(0:Int),(0:Int),(0:Int),[]⟩:ap)⟩:am).Tag (⟨r1.1,(0:Int),(0:Int),(0:Int),(⟨(0:Int),(0:Int),(0:Int),[]⟩:ap)⟩:am).L (⟨r1.1,(0:Int),(0:Int),(0:Int),(⟨(0:Int),(0:Int),(0:Int),[]⟩:ap)⟩:am).R (⟨r1.1,(0:Int),(0:Int),(0:Int),(⟨(0:Int),(0:Int),(0:Int),[]⟩:ap)⟩:am).Col r5.1)with L:=r7.1}:am).Tag ({(am.mk (⟨r1.1,(0:Int),(0:Int),(0:Int),(⟨(0:Int),(0:Int),(0:Int),[]⟩:ap)⟩:am).Tag (⟨r1.1,(0:Int),(0:Int),(0:Int),(⟨(0:Int),(0:Int),(0:Int),[]⟩:ap)⟩:am).L (⟨r1.1,(0:Int),(0:Int),(0:Int),(⟨(0:Int),(0:Int),(0:Int),[]⟩:ap)⟩:am).R (⟨r1.1,(0:Int),(0:Int),(0:Int),(⟨(0:Int),(0:Int),(0:Int),[]⟩:ap)⟩:am).Col r5.1)with L:=r7.1}:am).L r7.2.1 ({(am.mk (⟨r1.1,(0:Int),(0:Int),(0:Int),(⟨(0:Int),(0:Int),(0:Int),[]⟩:ap)⟩:am).Tag (⟨r1.1,(0:Int),(0:Int),(0:Int),(⟨(0:Int),(0:Int),(0:Int),[]⟩:ap)⟩:am).L (⟨r1.1,(0:Int),(0:Int),(0:Int),(⟨(0:Int),(0:Int),(0:Int),[]⟩:ap)⟩:am).R (⟨r1.1,(0:Int),(0:Int),(0:Int),(⟨(0:Int),(0:Int),(0:Int),[]⟩:ap)⟩:am).Col r5.1)with L:=r7.1}:am).Col ({(am.mk (⟨r1.1,(0:Int),(0:Int),(0:Int),(⟨(0:Int),(0:Int),(0:Int),[]⟩:ap)⟩:am).Tag (⟨r1.1,(0:Int),(0:Int),(0:Int),(⟨(0:Int),(0:Int),(0:Int),[]⟩:ap)⟩:am).L (⟨r1.1,(0:Int),(0:Int),(0:Int),(⟨(0:Int),(0:Int),(0:Int),[]⟩:ap)⟩:am).R (⟨r1.1,(0:Int),(0:Int),(0:Int),(⟨(0:Int),(0:Int),(0:Int),[]⟩:ap)⟩:am).Col r5.1)with L:=r7.1}:am).Value),r7.2.2.1,r5.2.2,r7.2.2.2,(IntKind.i64.wrap (at1+(1:Int)))))
  else
  ((ol ((⟨r1.1,(0:Int),(0:Int),(0:Int),(⟨(0:Int),(0:Int),(0:Int),[]⟩:ap)⟩:am).Tag)).bind fun r8=>
  (ci r r1.2 t r8 at1).bind fun r9=>
  some ((am.mk ({(⟨r1.1,(0:Int),(0:Int),(0:Int),(⟨(0:Int),(0:Int),(0:Int),[]⟩:ap)⟩:am)with L:=r9.1}:am).Tag ({(⟨r1.1,(0:Int),(0:Int),(0:Int),(⟨(0:Int),(0:Int),(0:Int),[]⟩:ap)⟩:am)with L:=r9.1}:am).L r9.2.1 ({(⟨r1.1,(0:Int),(0:Int),(0:Int),(⟨(0:Int),(0:Int),(0:Int),[]⟩:ap)⟩:am)with L:=r9.1}:am).Col ({(⟨r1.1,(0:Int),(0:Int),(0:Int),(⟨(0:Int),(0:Int),(0:Int),[]⟩:ap)⟩:am)with L:=r9.1}:am).Value),r9.2.2.1,r1.2,r9.2.2.2,(IntKind.i64.wrap (at1+(1:Int))))))

def jq(out:List am)(x:Int)(x1:List Int)(ob:aJ)(ob1:af):Option ((List am)×aJ×af×(List Int)×Int):=
 some (out,ob,ob1,x1,x)

def eT(n:Int):Nat->(List am)->Int->Int->(List Int)->aJ->af->Option ((List am)×aJ×af×(List Int)×Int)
  |0,_,_,_,_,_,_=>none
  |n1+1,out1,x2,x3,x4,ob2,ob3=>
    if(decide (x2<n))then
    ((cW ob2 ob3).bind fun r1=>
    if(!r1)then
    (jq out1 x3 x4 ob2 ob3)
    else
    ((kT ob2 ob3 x4 x3).bind fun r2=>
    (jb out1 ([r2.1])).bind fun out2=>
    (eT n n1) out2 (IntKind.i64.wrap (x2+(1:Int))) r2.2.2.2.2 r2.2.2.2.1 r2.2.1 r2.2.2.1))
    else
    (jq out1 x3 x4 ob2 ob3)

def iE(r:aJ)(in1:af)(n:Int)(t:(List Int))(at1:Int):Option ((List am)×aJ×af×(List Int)×Int):=
 eT n eI ([]:List am) (0:Int) at1 t r in1

def eQ(r:aJ)(in1:af):Option (aM×aJ×af):=
 (jB in1).bind fun r1=>
 (iE r r1.2 (IntKind.i64.wrap r1.1) ([]:List Int) (0:Int)).bind fun r2=>
 some ((⟨r2.1⟩:aM),r2.2.1,r2.2.2.1)

def nc(r:aJ)(in1:af):Option (fj×aJ×af):=
 (bl r in1).bind fun r1=>
 (eQ r r1.2).bind fun r2=>
 some ((⟨r1.1,r2.1⟩:fj),r2.2.1,r2.2.2)

def na(r:aJ)(in1:af):Option (j3×aJ×af):=
 (bl r in1).bind fun r1=>
 (iU r r1.2).bind fun r2=>
 some ((⟨r1.1,r2.1⟩:j3),r2.2.1,r2.2.2)

def j0(out:List fj)(ob:aJ)(ob1:af):Option ((List fj)×aJ×af):=
 some (out,ob,ob1)

def hT(n:Int):Nat->(List fj)->Int->aJ->af->Option ((List fj)×aJ×af)
  |0,_,_,_,_=>none
  |n1+1,out1,x,ob2,ob3=>
    if(decide (x<n))then
    ((cW ob2 ob3).bind fun r1=>
    if(!r1)then
    (j0 out1 ob2 ob3)
    else
    ((nc ob2 ob3).bind fun r2=>
    (jb out1 ([r2.1])).bind fun out2=>
    (hT n n1) out2 (IntKind.i64.wrap (x+(1:Int))) r2.2.1 r2.2.2))
    else
    (j0 out1 ob2 ob3)

def jr(r:aJ)(in1:af)(n:Int):Option ((List fj)×aJ×af):=
 hT n eI ([]:List fj) (0:Int) r in1

def jN(out:List aM)(ob:aJ)(ob1:af):Option ((List aM)×aJ×af):=
 some (out,ob,ob1)

def gL(n:Int):Nat->(List aM)->Int->aJ->af->Option ((List aM)×aJ×af)
  |0,_,_,_,_=>none
  |n1+1,out1,x,ob2,ob3=>
    if(decide (x<n))then
    ((cW ob2 ob3).bind fun r1=>
    if(!r1)then
    (jN out1 ob2 ob3)
    else
    ((eQ ob2 ob3).bind fun r2=>
    (jb out1 ([r2.1])).bind fun out2=>
    (gL n n1) out2 (IntKind.i64.wrap (x+(1:Int))) r2.2.1 r2.2.2))
    else
    (jN out1 ob2 ob3)

def iV(r:aJ)(in1:af)(n:Int):Option ((List aM)×aJ×af):=
 gL n eI ([]:List aM) (0:Int) r in1

def jZ(out:List j3)(ob:aJ)(ob1:af):Option ((List j3)×aJ×af):=
 some (out,ob,ob1)

def hM(n:Int):Nat->(List j3)->Int->aJ->af->Option ((List j3)×aJ×af)
  |0,_,_,_,_=>none
  |n1+1,out1,x,ob2,ob3=>
    if(decide (x<n))then
    ((cW ob2 ob3).bind fun r1=>
    if(!r1)then
    (jZ out1 ob2 ob3)
    else
    ((na ob2 ob3).bind fun r2=>
    (jb out1 ([r2.1])).bind fun out2=>
    (hM n n1) out2 (IntKind.i64.wrap (x+(1:Int))) r2.2.1 r2.2.2))
    else
    (jZ out1 ob2 ob3)

def jo(r:aJ)(in1:af)(n:Int):Option ((List j3)×aJ×af):=
 hM n eI ([]:List j3) (0:Int) r in1

def iL(r:aJ)(t:(List Int))(at1:Int)(r1:Int×af)(x1:Bool):Option (aa×aJ×af×(List Int)):=
  if x1 then
  ((gn r r1.2).bind fun r10=>
  (bl r r10.2).bind fun r11=>
  (jr r r11.2 r11.1).bind fun r12=>
  (ci r12.2.1 r12.2.2 t (1:Int) at1).bind fun r13=>
  some ((aa.mk (⟨r1.1,(0:Int),(0:Int),(0:Int),[],false,(⟨[]⟩:aM),[],[],[],[],(0:Int)⟩:aa).Op r13.1 r13.2.1 (⟨r1.1,(0:Int),(0:Int),(0:Int),[],false,(⟨[]⟩:aM),[],[],[],[],(0:Int)⟩:aa).Table (⟨r1.1,(0:Int),(0:Int),(0:Int),[],false,(⟨[]⟩:aM),[],[],[],[],(0:Int)⟩:aa).Kinds (⟨r1.1,(0:Int),(0:Int),(0:Int),[],false,(⟨[]⟩:aM),[],[],[],[],(0:Int)⟩:aa).Left (⟨r1.1,(0:Int),(0:Int),(0:Int),[],false,(⟨[]⟩:aM),[],[],[],[],(0:Int)⟩:aa).Cond r10.1 r12.1 (⟨r1.1,(0:Int),(0:Int),(0:Int),[],false,(⟨[]⟩:aM),[],[],[],[],(0:Int)⟩:aa).Items (⟨r1.1,(0:Int),(0:Int),(0:Int),[],false,(⟨[]⟩:aM),[],[],[],[],(0:Int)⟩:aa).Order (⟨r1.1,(0:Int),(0:Int),(0:Int),[],false,(⟨[]⟩:aM),[],[],[],[],(0:Int)⟩:aa).Limit),r13.2.2.1,r12.2.2,r13.2.2.2))
  else
  (if(((⟨r1.1,(0:Int),(0:Int),(0:Int),[],false,(⟨[]⟩:aM),[],[],[],[],(0:Int)⟩:aa).Op)==(5:Int))then
  ((bl r r1.2).bind fun r14=>
  (iV r r14.2 r14.1).bind fun r15=>
  (ci r15.2.1 r15.2.2 t (1:Int) at1).bind fun r16=>
  some ((aa.mk (⟨r1.1,(0:Int),(0:Int),(0:Int),[],false,(⟨[]⟩:aM),[],[],[],[],(0:Int)⟩:aa).Op r16.1 r16.2.1 (⟨r1.1,(0:Int),(0:Int),(0:Int),[],false,(⟨[]⟩:aM),[],[],[],[],(0:Int)⟩:aa).Table (⟨r1.1,(0:Int),(0:Int),(0:Int),[],false,(⟨[]⟩:aM),[],[],[],[],(0:Int)⟩:aa).Kinds (⟨r1.1,(0:Int),(0:Int),(0:Int),[],false,(⟨[]⟩:aM),[],[],[],[],(0:Int)⟩:aa).Left (⟨r1.1,(0:Int),(0:Int),(0:Int),[],false,(⟨[]⟩:aM),[],[],[],[],(0:Int)⟩:aa).Cond (⟨r1.1,(0:Int),(0:Int),(0:Int),[],false,(⟨[]⟩:aM),[],[],[],[],(0:Int)⟩:aa).Keys (⟨r1.1,(0:Int),(0:Int),(0:Int),[],false,(⟨[]⟩:aM),[],[],[],[],(0:Int)⟩:aa).Aggs r15.1 (⟨r1.1,(0:Int),(0:Int),(0:Int),[],false,(⟨[]⟩:aM),[],[],[],[],(0:Int)⟩:aa).Order (⟨r1.1,(0:Int),(0:Int),(0:Int),[],false,(⟨[]⟩:aM),[],[],[],[],(0:Int)⟩:aa).Limit),r16.2.2.1,r15.2.2,r16.2.2.2))
  else
  (if(((⟨r1.1,(0:Int),(0:Int),(0:Int),[],false,(⟨[]⟩:aM),[],[],[],[],(0:Int)⟩:aa).Op)==(8:Int))then
  ((bl r r1.2).bind fun r17=>
  (jo r r17.2 r17.1).bind fun r18=>
  (m8 r18.2.2).bind fun r19=>
  (ci r18.2.1 r19.2 t (1:Int) at1).bind fun r20=>
  some ((aa.mk (⟨r1.1,(0:Int),(0:Int),(0:Int),[],false,(⟨[]⟩:aM),[],[],[],[],(0:Int)⟩:aa).Op r20.1 r20.2.1 (⟨r1.1,(0:Int),(0:Int),(0:Int),[],false,(⟨[]⟩:aM),[],[],[],[],(0:Int)⟩:aa).Table (⟨r1.1,(0:Int),(0:Int),(0:Int),[],false,(⟨[]⟩:aM),[],[],[],[],(0:Int)⟩:aa).Kinds (⟨r1.1,(0:Int),(0:Int),(0:Int),[],false,(⟨[]⟩:aM),[],[],[],[],(0:Int)⟩:aa).Left (⟨r1.1,(0:Int),(0:Int),(0:Int),[],false,(⟨[]⟩:aM),[],[],[],[],(0:Int)⟩:aa).Cond (⟨r1.1,(0:Int),(0:Int),(0:Int),[],false,(⟨[]⟩:aM),[],[],[],[],(0:Int)⟩:aa).Keys (⟨r1.1,(0:Int),(0:Int),(0:Int),[],false,(⟨[]⟩:aM),[],[],[],[],(0:Int)⟩:aa).Aggs (⟨r1.1,(0:Int),(0:Int),(0:Int),[],false,(⟨[]⟩:aM),[],[],[],[],(0:Int)⟩:aa).Items r18.1 (IntKind.i64.wrap ((IntKind.i64.wrap r19.1)-(1:Int)))),r20.2.2.1,r19.2,r20.2.2.2))
  else
  (if(((⟨r1.1,(0:Int),(0:Int),(0:Int),[],false,(⟨[]⟩:aM),[],[],[],[],(0:Int)⟩:aa).Op)==(7:Int))then
  ((ci r r1.2 t (2:Int) at1).bind fun r21=>
  some ((aa.mk (⟨r1.1,(0:Int),(0:Int),(0:Int),[],false,(⟨[]⟩:aM),[],[],[],[],(0:Int)⟩:aa).Op r21.1 r21.2.1 (⟨r1.1,(0:Int),(0:Int),(0:Int),[],false,(⟨[]⟩:aM),[],[],[],[],(0:Int)⟩:aa).Table (⟨r1.1,(0:Int),(0:Int),(0:Int),[],false,(⟨[]⟩:aM),[],[],[],[],(0:Int)⟩:aa).Kinds (⟨r1.1,(0:Int),(0:Int),(0:Int),[],false,(⟨[]⟩:aM),[],[],[],[],(0:Int)⟩:aa).Left (⟨r1.1,(0:Int),(0:Int),(0:Int),[],false,(⟨[]⟩:aM),[],[],[],[],(0:Int)⟩:aa).Cond (⟨r1.1,(0:Int),(0:Int),(0:Int),[],false,(⟨[]⟩:aM),[],[],[],[],(0:Int)⟩:aa).Keys (⟨r1.1,(0:Int),(0:Int),(0:Int),[],false,(⟨[]⟩:aM),[],[],[],[],(0:Int)⟩:aa).Aggs (⟨r1.1,(0:Int),(0:Int),(0:Int),[],false,(⟨[]⟩:aM),[],[],[],[],(0:Int)⟩:aa).Items (⟨r1.1,(0:Int),(0:Int),(0:Int),[],false,(⟨[]⟩:aM),[],[],[],[],(0:Int)⟩:aa).Order (⟨r1.1,(0:Int),(0:Int),(0:Int),[],false,(⟨[]⟩:aM),[],[],[],[],(0:Int)⟩:aa).Limit),r21.2.2.1,r1.2,r21.2.2.2))
  else
  ((ci r r1.2 t (1:Int) at1).bind fun r22=>
  some ((aa.mk (⟨r1.1,(0:Int),(0:Int),(0:Int),[],false,(⟨[]⟩:aM),[],[],[],[],(0:Int)⟩:aa).Op r22.1 r22.2.1 (⟨r1.1,(0:Int),(0:Int),(0:Int),[],false,(⟨[]⟩:aM),[],[],[],[],(0:Int)⟩:aa).Table (⟨r1.1,(0:Int),(0:Int),(0:Int),[],false,(⟨[]⟩:aM),[],[],[],[],(0:Int)⟩:aa).Kinds (⟨r1.1,(0:Int),(0:Int),(0:Int),[],false,(⟨[]⟩:aM),[],[],[],[],(0:Int)⟩:aa).Left (⟨r1.1,(0:Int),(0:Int),(0:Int),[],false,(⟨[]⟩:aM),[],[],[],[],(0:Int)⟩:aa).Cond (⟨r1.1,(0:Int),(0:Int),(0:Int),[],false,(⟨[]⟩:aM),[],[],[],[],(0:Int)⟩:aa).Keys (⟨r1.1,(0:Int),(0:Int),(0:Int),[],false,(⟨[]⟩:aM),[],[],[],[],(0:Int)⟩:aa).Aggs (⟨r1.1,(0:Int),(0:Int),(0:Int),[],false,(⟨[]⟩:aM),[],[],[],[],(0:Int)⟩:aa).Items (⟨r1.1,(0:Int),(0:Int),(0:Int),[],false,(⟨[]⟩:aM),[],[],[],[],(0:Int)⟩:aa).Order (⟨r1.1,(0:Int),(0:Int),(0:Int),[],false,(⟨[]⟩:aM),[],[],[],[],(0:Int)⟩:aa).Limit),r22.2.2.1,r1.2,r22.2.2.2)))))

def ku(r:aJ)(t:(List Int))(at1:Int)(r1:Int×af)(x:Bool):Option (aa×aJ×af×(List Int)):=
  if x then
  ((bl r r1.2).bind fun r2=>
  (gn r r2.2).bind fun r3=>
  (ci r r3.2 t (0:Int) at1).bind fun r4=>
  some ((aa.mk (⟨r1.1,(0:Int),(0:Int),(0:Int),[],false,(⟨[]⟩:aM),[],[],[],[],(0:Int)⟩:aa).Op r4.1 r4.2.1 r2.1 r3.1 (⟨r1.1,(0:Int),(0:Int),(0:Int),[],false,(⟨[]⟩:aM),[],[],[],[],(0:Int)⟩:aa).Left (⟨r1.1,(0:Int),(0:Int),(0:Int),[],false,(⟨[]⟩:aM),[],[],[],[],(0:Int)⟩:aa).Cond (⟨r1.1,(0:Int),(0:Int),(0:Int),[],false,(⟨[]⟩:aM),[],[],[],[],(0:Int)⟩:aa).Keys (⟨r1.1,(0:Int),(0:Int),(0:Int),[],false,(⟨[]⟩:aM),[],[],[],[],(0:Int)⟩:aa).Aggs (⟨r1.1,(0:Int),(0:Int),(0:Int),[],false,(⟨[]⟩:aM),[],[],[],[],(0:Int)⟩:aa).Items (⟨r1.1,(0:Int),(0:Int),(0:Int),[],false,(⟨[]⟩:aM),[],[],[],[],(0:Int)⟩:aa).Order (⟨r1.1,(0:Int),(0:Int),(0:Int),[],false,(⟨[]⟩:aM),[],[],[],[],(0:Int)⟩:aa).Limit),r4.2.2.1,r3.2,r4.2.2.2))
  else
  (if(((⟨r1.1,(0:Int),(0:Int),(0:Int),[],false,(⟨[]⟩:aM),[],[],[],[],(0:Int)⟩:aa).Op)==(2:Int))then
  ((iU r r1.2).bind fun r5=>
  (eQ r5.2.1 r5.2.2).bind fun r6=>
  (ci r6.2.1 r6.2.2 t (2:Int) at1).bind fun r7=>
  some ((aa.mk (⟨r1.1,(0:Int),(0:Int),(0:Int),[],false,(⟨[]⟩:aM),[],[],[],[],(0:Int)⟩:aa).Op r7.1 r7.2.1 (⟨r1.1,(0:Int),(0:Int),(0:Int),[],false,(⟨[]⟩:aM),[],[],[],[],(0:Int)⟩:aa).Table (⟨r1.1,(0:Int),(0:Int),(0:Int),[],false,(⟨[]⟩:aM),[],[],[],[],(0:Int)⟩:aa).Kinds r5.1 r6.1 (⟨r1.1,(0:Int),(0:Int),(0:Int),[],false,(⟨[]⟩:aM),[],[],[],[],(0:Int)⟩:aa).Keys (⟨r1.1,(0:Int),(0:Int),(0:Int),[],false,(⟨[]⟩:aM),[],[],[],[],(0:Int)⟩:aa).Aggs (⟨r1.1,(0:Int),(0:Int),(0:Int),[],false,(⟨[]⟩:aM),[],[],[],[],(0:Int)⟩:aa).Items (⟨r1.1,(0:Int),(0:Int),(0:Int),[],false,(⟨[]⟩:aM),[],[],[],[],(0:Int)⟩:aa).Order (⟨r1.1,(0:Int),(0:Int),(0:Int),[],false,(⟨[]⟩:aM),[],[],[],[],(0:Int)⟩:aa).Limit),r7.2.2.1,r6.2.2,r7.2.2.2))
  else
  (if(((⟨r1.1,(0:Int),(0:Int),(0:Int),[],false,(⟨[]⟩:aM),[],[],[],[],(0:Int)⟩:aa).Op)==(3:Int))then
  ((eQ r r1.2).bind fun r8=>
  (ci r8.2.1 r8.2.2 t (1:Int) at1).bind fun r9=>
  some ((aa.mk (⟨r1.1,(0:Int),(0:Int),(0:Int),[],false,(⟨[]⟩:aM),[],[],[],[],(0:Int)⟩:aa).Op r9.1 r9.2.1 (⟨r1.1,(0:Int),(0:Int),(0:Int),[],false,(⟨[]⟩:aM),[],[],[],[],(0:Int)⟩:aa).Table (⟨r1.1,(0:Int),(0:Int),(0:Int),[],false,(⟨[]⟩:aM),[],[],[],[],(0:Int)⟩:aa).Kinds (⟨r1.1,(0:Int),(0:Int),(0:Int),[],false,(⟨[]⟩:aM),[],[],[],[],(0:Int)⟩:aa).Left r8.1 (⟨r1.1,(0:Int),(0:Int),(0:Int),[],false,(⟨[]⟩:aM),[],[],[],[],(0:Int)⟩:aa).Keys (⟨r1.1,(0:Int),(0:Int),(0:Int),[],false,(⟨[]⟩:aM),[],[],[],[],(0:Int)⟩:aa).Aggs (⟨r1.1,(0:Int),(0:Int),(0:Int),[],false,(⟨[]⟩:aM),[],[],[],[],(0:Int)⟩:aa).Items (⟨r1.1,(0:Int),(0:Int),(0:Int),[],false,(⟨[]⟩:aM),[],[],[],[],(0:Int)⟩:aa).Order (⟨r1.1,(0:Int),(0:Int),(0:Int),[],false,(⟨[]⟩:aM),[],[],[],[],(0:Int)⟩:aa).Limit),r9.2.2.1,r8.2.2,r9.2.2.2))
  else
  (if(((⟨r1.1,(0:Int),(0:Int),(0:Int),[],false,(⟨[]⟩:aM),[],[],[],[],(0:Int)⟩:aa).Op)==(4:Int))then
  (iL r t at1 r1 (((⟨r1.1,(0:Int),(0:Int),(0:Int),[],false,(⟨[]⟩:aM),[],[],[],[],(0:Int)⟩:aa).Op)==(4:Int)))
  else
  (if(((⟨r1.1,(0:Int),(0:Int),(0:Int),[],false,(⟨[]⟩:aM),[],[],[],[],(0:Int)⟩:aa).Op)==(10:Int))then
  (iL r t at1 r1 (((⟨r1.1,(0:Int),(0:Int),(0:Int),[],false,(⟨[]⟩:aM),[],[],[],[],(0:Int)⟩:aa).Op)==(10:Int)))
  else
  (iL r t at1 r1 (((⟨r1.1,(0:Int),(0:Int),(0:Int),[],false,(⟨[]⟩:aM),[],[],[],[],(0:Int)⟩:aa).Op)==(11:Int)))))))

def oR(r:aJ)(in1:af)(t:(List Int))(at1:Int):Option (aa×aJ×af×(List Int)):=
 (bl r in1).bind fun r1=>
 if(((⟨r1.1,(0:Int),(0:Int),(0:Int),[],false,(⟨[]⟩:aM),[],[],[],[],(0:Int)⟩:aa).Op)==(1:Int))then
 (ku r t at1 r1 (((⟨r1.1,(0:Int),(0:Int),(0:Int),[],false,(⟨[]⟩:aM),[],[],[],[],(0:Int)⟩:aa).Op)==(1:Int)))
 else
 (ku r t at1 r1 (((⟨r1.1,(0:Int),(0:Int),(0:Int),[],false,(⟨[]⟩:aM),[],[],[],[],(0:Int)⟩:aa).Op)==(9:Int)))

def kS(r:aJ)(in1:af)(t:(List Int))(at1:Int):Option (aa×aJ×af×(List Int)×Int):=
 (oR r in1 t at1).bind fun r1=>
 some (r1.1,r1.2.1,r1.2.2.1,r1.2.2.2,(IntKind.i64.wrap (at1+(1:Int))))

def jp(out:List aa)(x:Int)(x1:List Int)(ob:aJ)(ob1:af):Option ((List aa)×aJ×af×(List Int)×Int):=
 some (out,ob,ob1,x1,x)

def eS(n:Int):Nat->(List aa)->Int->Int->(List Int)->aJ->af->Option ((List aa)×aJ×af×(List Int)×Int)
  |0,_,_,_,_,_,_=>none
  |n1+1,out1,x2,x3,x4,ob2,ob3=>
    if(decide (x2<n))then
    ((cW ob2 ob3).bind fun r1=>
    if(!r1)then
    (jp out1 x3 x4 ob2 ob3)
    else
    ((kS ob2 ob3 x4 x3).bind fun r2=>
    (jb out1 ([r2.1])).bind fun out2=>
    (eS n n1) out2 (IntKind.i64.wrap (x2+(1:Int))) r2.2.2.2.2 r2.2.2.2.1 r2.2.1 r2.2.2.1))
    else
    (jp out1 x3 x4 ob2 ob3)

def kH(r:aJ)(in1:af)(n:Int)(t:(List Int))(at1:Int):Option ((List aa)×aJ×af×(List Int)×Int):=
 eS n eI ([]:List aa) (0:Int) at1 t r in1

def mv(r:aJ)(in1:af):Option (dE×aJ×af):=
 (bl r in1).bind fun r1=>
 (bl r r1.2).bind fun r2=>
 (gn r r2.2).bind fun r3=>
 (bl r r3.2).bind fun r4=>
 (kH r r4.2 r4.1 ([]:List Int) (0:Int)).bind fun r5=>
 some ((dE.mk r5.1 (⟨[],r1.1,r2.1,r3.1⟩:dE).At (⟨[],r1.1,r2.1,r3.1⟩:dE).Way (⟨[],r1.1,r2.1,r3.1⟩:dE).Cols),r5.2.1,r5.2.2.1)

def jM(out:List dE)(ob:aJ)(ob1:af):Option ((List dE)×aJ×af):=
 some (out,ob,ob1)

def gK(n:Int):Nat->(List dE)->Int->aJ->af->Option ((List dE)×aJ×af)
  |0,_,_,_,_=>none
  |n1+1,out1,x,ob2,ob3=>
    if(decide (x<n))then
    ((cW ob2 ob3).bind fun r1=>
    if(!r1)then
    (jM out1 ob2 ob3)
    else
    ((mv ob2 ob3).bind fun r2=>
    (jb out1 ([r2.1])).bind fun out2=>
    (gK n n1) out2 (IntKind.i64.wrap (x+(1:Int))) r2.2.1 r2.2.2))
    else
    (jM out1 ob2 ob3)

def li(r:aJ)(in1:af)(n:Int):Option ((List dE)×aJ×af):=
 gK n eI ([]:List dE) (0:Int) r in1

def mu(r:aJ)(in1:af):Option (iu×aJ×af):=
 (bl r in1).bind fun r1=>
 (li r r1.2 r1.1).bind fun r2=>
 some ((⟨r2.1⟩:iu),r2.2.1,r2.2.2)

def lj(p:iu):Option ((List Int)×Int):=
  (lE p).bind fun r=>
  if(!r)then
  (some ([],(290:Int)))
  else
  ((iR (⟨[]⟩:aL) p).bind fun r1=>
  some (r1.bytes,(0:Int)))

def nd(b:(List Int)):Option (iu×Int):=
  (tH b).bind fun r=>
  (mu r.1 r.2).bind fun r1=>
  (io r1.2.1 r1.2.2).bind fun r2=>
  (if(!(!r2))then((lE r1.1).bind fun r3=>
  some (!r3))else some true).bind fun t=>
  if t then
  (some ((⟨[]⟩:iu),(331:Int)))
  else
  (some (r1.1,(0:Int)))

def kp(b:(List Int)):Option Bool:=
  (u0).bind fun r=>
  if(!r)then
  (some false)
  else
  (if(decide ((5000:Int)<(b.length:Int)))then
  (some true)
  else
  ((jb ([]:List Int) b).bind fun l1=>
  (nd l1).bind fun r1=>
  if(r1.2 !=(0:Int))then
  (some ((r1.2==(331:Int))&&((r1.1.Frags.length:Int)==(0:Int))))
  else
  ((lj r1.1).bind fun r2=>
  (if(r2.2==(0:Int))then((ot b r2.1).bind fun r3=>
  some r3)else some false).bind fun t=>
  some t)))

end Go.Proofs.YtdohlidddcgfjaaGreat

