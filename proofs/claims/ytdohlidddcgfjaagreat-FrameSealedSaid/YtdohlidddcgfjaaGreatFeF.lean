/- bO of this claim: F. -/
import Derived.Test.YtdohlidddcgfjaaGreatFeD
import Derived.Test.YtdohlidddcgfjaaGreatFeV4
set_option linter.all false
namespace Go.Proofs.YtdohlidddcgfjaaGreat
open Go

def uF(nx1:Int->(List Int)->Option (List Int))(n2:Int):Nat->Int->(List Int)->Option (List Int)
  |0,_,_=>none
  |n4+1,x,out2=>
    if(decide (x<n2))then
    ((gG out2 n2).bind fun e4=>
    (gG out2 x).bind fun e5=>
    (gG out2 (IntKind.i64.wrap (n2+x))).bind fun e6=>
    (some (out2.set (IntKind.i64.wrap (n2+x)).toNat (pV .xor .u32 e4 e5))).bind fun ar3=>
    (uF nx1 n2 n4) (IntKind.i64.wrap (x+(1:Int))) ar3)
    else
    (nx1 (IntKind.i64.wrap (n2*(2:Int))) out2)

def ro:Nat->Int->(List Int)->Option (List Int)
 |0,_,_=>none
 |n3+1,n2,out1=>
  if(decide (n2<(256:Int)))then
  (uF (ro n3) n2 eQ (0:Int) out1)
  else
  (some out1)

def rp:Nat->Int->(List Int)->Option (List Int)
  |0,_,_=>none
  |n1+1,n,out=>
    if(decide ((0:Int)<n))then
    ((gG out (IntKind.i64.wrap ((2:Int)*n))).bind fun e1=>
    (gG out n).bind fun e2=>
    (some (out.set n.toNat ((e1).fdiv (2^(min (Int.toNat (1:Int)) IntKind.u32.bits))))).bind fun ar1=>
    if((pV .and .u32 e1 (1:Int))==(1:Int))then
    ((gG ar1 n).bind fun e3=>
    (some (ar1.set n.toNat (pV .xor .u32 e3 (2197175160:Int)))).bind fun ar2=>
    (rp n1) (IntKind.i64.wrap ((n).tdiv (2:Int))) ar2)
    else
    ((rp n1) (IntKind.i64.wrap ((n).tdiv (2:Int))) ar1))
    else
    (ro eQ (2:Int) out)

def Ai:Option (List Int):=
 (gG (List.replicate 256 (0:Int)) (128:Int)).bind fun e=>
 (some ((List.replicate 256 (0:Int)).set (128:Int).toNat (2197175160:Int))).bind fun ar=>
 rp eQ (64:Int) ar

def sR(register:Int)(vp:(List Int))(c:Int):Option Int:=
 (gG vp (pV .xor .u8 (IntKind.u8.wrap register) c)).bind fun e=>
 some (pV .xor .u32 ((register).fdiv (2^(min (Int.toNat (8:Int)) IntKind.u32.bits))) e)

def nU(r:(List Int)):List Int->Int->Option Int
 |[],register=>
  some (pV .xor .u32 (if IntKind.u32.signed then -1 else IntKind.u32.max) register)
 |e::tl,register=>
  (sR register r e).bind fun r1=>
  (nU r tl) r1

def wT(b:(List Int)):Option Int:=
 (Ai).bind fun r=>
 nU r b (4294967295:Int)

def nM(b:(List Int)):Option (List Int):=
 (jh ([]:List Int) b).bind fun x=>
 some x

def mK:Nat->(List Int)->Int->Option (List Int)
 |0,out,n=>
  some out
 |k1+1,out,n=>
  (jh out ([(IntKind.u8.wrap n)])).bind fun out1=>
  (mK k1) out1 ((n).fdiv (2^(min (Int.toNat (8:Int)) IntKind.u32.bits)))

def mq(b:(List Int)):Option (List Int):=
 (wT b).bind fun r=>
 (nM b).bind fun r1=>
 mK 4 r1 r

def mR(n:Int):Option Bool:=
 some ((decide ((0:Int)<=n))&&(decide (n<=(8:Int))))

def bV(s2:(List (List am)))(eq:((List am)->(List am)->Option Bool)):List (List am)->Nat->Option Bool
 |[],i=>
  some true
 |e::tl,i=>
  (gG s2 (i:Int)).bind fun e1=>
  (eq e e1).bind fun r=>
  if(!r)then
  (some false)
  else
  ((bV s2 eq tl) (i+1))

def ce(s1:(List (List am)))(s2:(List (List am)))(eq:((List am)->(List am)->Option Bool)):Option Bool:=
 if((s1.length:Int) !=(s2.length:Int))then
 (some false)
 else
 (bV s2 eq s1 0)

def dr(s2:(List am)):List am->Nat->Option Bool
 |[],i=>
  some true
 |e::tl,i=>
  (gG s2 (i:Int)).bind fun e1=>
  if(!decide (e=e1))then
  (some false)
  else
  ((dr s2 tl) (i+1))

def dJ(s1:(List am))(s2:(List am)):Option Bool:=
 if((s1.length:Int) !=(s2.length:Int))then
 (some false)
 else
 (dr s2 s1 0)

def oW(p:(List am))(y:(List am)):Option Bool:=
 (dJ p y).bind fun r=>
 some r

def n8(a1:aO)(b:aO):Option Bool:=
 (ce a1.Batch.Rows b.Batch.Rows oW).bind fun r=>
 some (((((((a1.Kind==b.Kind)&&(a1.Session==b.Session))&&(a1.Seq==b.Seq))&&(a1.Limit==b.Limit))&&(a1.Batch.End==b.Batch.End))&&(a1.Batch.Count==b.Batch.Count))&&r)

def jx(s2:(List Int)):List Int->Nat->Option Bool
 |[],i=>
  some true
 |e::tl,i=>
  (gG s2 (i:Int)).bind fun e1=>
  if(e !=e1)then
  (some false)
  else
  ((jx s2 tl) (i+1))

def gU(s1:(List Int))(s2:(List Int)):Option Bool:=
 if((s1.length:Int) !=(s2.length:Int))then
 (some false)
 else
 (jx s2 s1 0)

def fO(s2:(List kF)):List kF->Nat->Option Bool
 |[],i=>
  some true
 |e::tl,i=>
  (gG s2 (i:Int)).bind fun e1=>
  if(!decide (e=e1))then
  (some false)
  else
  ((fO s2 tl) (i+1))

def gC(s1:(List kF))(s2:(List kF)):Option Bool:=
 if((s1.length:Int) !=(s2.length:Int))then
 (some false)
 else
 (fO s2 s1 0)

def eG(s2:(List ap)):List ap->Nat->Option Bool
 |[],i=>
  some true
 |e::tl,i=>
  (gG s2 (i:Int)).bind fun e1=>
  if(!decide (e=e1))then
  (some false)
  else
  ((eG s2 tl) (i+1))

def fy(s1:(List ap))(s2:(List ap)):Option Bool:=
 if((s1.length:Int) !=(s2.length:Int))then
 (some false)
 else
 (eG s2 s1 0)

def rL(a1:aR)(b:aR):Option Bool:=
 (fy a1.Nodes b.Nodes).bind fun r=>
 some r

def oH(p:fI)(q:fI):Option Bool:=
  (if(p.Tag==q.Tag)then((rL p.Arg q.Arg).bind fun r=>
  some r)else some false).bind fun t=>
  some t

def cX(s2:(List fI))(eq:(fI->fI->Option Bool)):List fI->Nat->Option Bool
 |[],i=>
  some true
 |e::tl,i=>
  (gG s2 (i:Int)).bind fun e1=>
  (eq e e1).bind fun r=>
  if(!r)then
  (some false)
  else
  ((cX s2 eq tl) (i+1))

def dg(s1:(List fI))(s2:(List fI))(eq:(fI->fI->Option Bool)):Option Bool:=
 if((s1.length:Int) !=(s2.length:Int))then
 (some false)
 else
 (cX s2 eq s1 0)

def cO(s2:(List aR))(eq:(aR->aR->Option Bool)):List aR->Nat->Option Bool
 |[],i=>
  some true
 |e::tl,i=>
  (gG s2 (i:Int)).bind fun e1=>
  (eq e e1).bind fun r=>
  if(!r)then
  (some false)
  else
  ((cO s2 eq tl) (i+1))

def cT(s1:(List aR))(s2:(List aR))(eq:(aR->aR->Option Bool)):Option Bool:=
 if((s1.length:Int) !=(s2.length:Int))then
 (some false)
 else
 (cO s2 eq s1 0)

def nz(p:aa)(y:aa):Option Bool:=
  (if((((((p.Op==y.Op)&&(p.A==y.A))&&(p.B==y.B))&&(p.Table==y.Table))&&(p.Left==y.Left))&&(p.Limit==y.Limit))then((gU p.Kinds y.Kinds).bind fun r=>
  some r)else some false).bind fun t=>
  (if t then((gU p.Keys y.Keys).bind fun r1=>
  some r1)else some false).bind fun t1=>
  (if t1 then((gC p.Order y.Order).bind fun r2=>
  some r2)else some false).bind fun t2=>
  (if t2 then((rL p.Cond y.Cond).bind fun r3=>
  some r3)else some false).bind fun t3=>
  (if t3 then((dg p.Aggs y.Aggs oH).bind fun r4=>
  some r4)else some false).bind fun t4=>
  (if t4 then((cT p.Items y.Items rL).bind fun r5=>
  some r5)else some false).bind fun t5=>
  some t5

def cN(s2:(List dC))(eq:(dC->dC->Option Bool)):List dC->Nat->Option Bool
 |[],i=>
  some true
 |e::tl,i=>
  (gG s2 (i:Int)).bind fun e1=>
  (eq e e1).bind fun r=>
  if(!r)then
  (some false)
  else
  ((cN s2 eq tl) (i+1))

def cS(s1:(List dC))(s2:(List dC))(eq:(dC->dC->Option Bool)):Option Bool:=
 if((s1.length:Int) !=(s2.length:Int))then
 (some false)
 else
 (cN s2 eq s1 0)

def cF(s2:(List aa))(eq:(aa->aa->Option Bool)):List aa->Nat->Option Bool
 |[],i=>
  some true
 |e::tl,i=>
  (gG s2 (i:Int)).bind fun e1=>
  (eq e e1).bind fun r=>
  if(!r)then
  (some false)
  else
  ((cF s2 eq tl) (i+1))

def cK(s1:(List aa))(s2:(List aa))(eq:(aa->aa->Option Bool)):Option Bool:=
 if((s1.length:Int) !=(s2.length:Int))then
 (some false)
 else
 (cF s2 eq s1 0)

def qX(node:(aa->aa->Option Bool))(p:dC)(y:dC):Option Bool:=
  (if((p.At==y.At)&&(p.Way==y.Way))then((gU p.Cols y.Cols).bind fun r=>
  some r)else some false).bind fun t=>
  (if t then((cK p.Nodes y.Nodes node).bind fun r1=>
  some r1)else some false).bind fun t1=>
  some t1

def wZ(a1:da)(b:da):Option Bool:=
 (cS a1.Frags b.Frags (qX nz)).bind fun r=>
 some r

def oX(a1:ci)(b:ci):Option Bool:=
  (if((decide (([a1.Kind,a1.From,a1.To,a1.Epoch,a1.Frag,a1.Sites])=([b.Kind,b.From,b.To,b.Epoch,b.Frag,b.Sites])))&&(a1.Err==b.Err))then((n8 a1.Packet b.Packet).bind fun r=>
  some r)else some false).bind fun t=>
  (if t then((wZ a1.Plan b.Plan).bind fun r1=>
  some r1)else some false).bind fun t1=>
  some t1

def pP(m:ci)(x:Bool):Option Bool:=
  if x then
  ((oX (ci.mk (0:Int) (0:Int) (0:Int) (0:Int) (0:Int) m.Sites m.Plan (⟨(0:Int),(0:Int),(0:Int),(0:Int),(⟨[],false,(0:Int)⟩:bH)⟩:aO) m.Err) (⟨(0:Int),(0:Int),(0:Int),(0:Int),(0:Int),(0:Int),(⟨[]⟩:da),(⟨(0:Int),(0:Int),(0:Int),(0:Int),(⟨[],false,(0:Int)⟩:bH)⟩:aO),(0:Int)⟩:ci)).bind fun r1=>
  some r1)
  else
  (if(m.Kind==(5:Int))then
  ((oX (ci.mk (0:Int) (0:Int) (0:Int) (0:Int) m.Frag m.Sites m.Plan m.Packet (0:Int)) (⟨(0:Int),(0:Int),(0:Int),(0:Int),(0:Int),(0:Int),(⟨[]⟩:da),(⟨(0:Int),(0:Int),(0:Int),(0:Int),(⟨[],false,(0:Int)⟩:bH)⟩:aO),(0:Int)⟩:ci)).bind fun r2=>
  some r2)
  else
  ((oX (ci.mk (0:Int) (0:Int) (0:Int) (0:Int) m.Frag m.Sites m.Plan m.Packet m.Err) (⟨(0:Int),(0:Int),(0:Int),(0:Int),(0:Int),(0:Int),(⟨[]⟩:da),(⟨(0:Int),(0:Int),(0:Int),(0:Int),(⟨[],false,(0:Int)⟩:bH)⟩:aO),(0:Int)⟩:ci)).bind fun r3=>
  some r3))

def s6(m:ci):Option Bool:=
  if(m.Kind==(1:Int))then
  ((oX (ci.mk (0:Int) (0:Int) (0:Int) (0:Int) m.Frag (0:Int) (⟨[]⟩:da) m.Packet m.Err) (⟨(0:Int),(0:Int),(0:Int),(0:Int),(0:Int),(0:Int),(⟨[]⟩:da),(⟨(0:Int),(0:Int),(0:Int),(0:Int),(⟨[],false,(0:Int)⟩:bH)⟩:aO),(0:Int)⟩:ci)).bind fun r=>
  some r)
  else
  (if(m.Kind==(3:Int))then
  (pP m (m.Kind==(3:Int)))
  else
  (pP m (m.Kind==(4:Int))))

def pR(c:Int):Option Bool:=
 some ((decide (c<(0:Int)))||(decide ((16:Int)<=c)))

def fx(f:(Int->Option Bool)):List Int->Nat->Option Int
 |[],i=>
  some (-1:Int)
 |e::tl,i=>
  (f e).bind fun r=>
  if r then
  (some (i:Int))
  else
  ((fx f tl) (i+1))

def lh(h3:(List Int))(f:(Int->Option Bool)):Option Int:=
 fx f h3 0

def eo(h3:(List Int))(f:(Int->Option Bool)):Option Bool:=
 (lh h3 f).bind fun r=>
 some (decide ((0:Int)<=r))

def nX(k:Int):Option Bool:=
 some ((decide (k<(1:Int)))||(decide ((3:Int)<k)))

def jq(l:al):Option (Bool×al):=
 (eo ((({l with result:=l.n.Kinds}:al).n).Kinds) nX).bind fun r=>
 some ((((((!r)&&(decide ((0:Int)<=((({l with result:=l.n.Kinds}:al).n).Table))))&&(decide (((({l with result:=l.n.Kinds}:al).n).Table)<(4:Int))))&&(decide ((0:Int)<(((({l with result:=l.n.Kinds}:al).n).Kinds).length:Int))))&&(decide ((((({l with result:=l.n.Kinds}:al).n).Kinds).length:Int)<=(4:Int)))),({l with result:=l.n.Kinds}:al))

def m6(k:Int):Option Bool:=
 some ((decide (k<(0:Int)))||(decide ((4:Int)<k)))

def iB(l:al):Option (Bool×al):=
 (eo ((({l with result:=l.n.Kinds}:al).n).Kinds) m6).bind fun r=>
 some ((((((!r)&&(decide ((0:Int)<=((({l with result:=l.n.Kinds}:al).n).Table))))&&(decide (((({l with result:=l.n.Kinds}:al).n).Table)<(30:Int))))&&(decide ((0:Int)<(((({l with result:=l.n.Kinds}:al).n).Kinds).length:Int))))&&(decide ((((({l with result:=l.n.Kinds}:al).n).Kinds).length:Int)<=(16:Int)))),({l with result:=l.n.Kinds}:al))

def mt(h3:List Int):Option (List Int):=
 some h3

def mu(n:Int):Option (List Int):=
  if(decide ((0:Int)<(IntKind.i64.wrap (n-(IntKind.i64.wrap ((0:Int)-(0:Int)))))))then
  ((Zc (IntKind.i64.wrap (n-(IntKind.i64.wrap ((0:Int)-(0:Int)))))).bind fun _=>
  (uD (IntKind.i64.wrap (n-(IntKind.i64.wrap ((0:Int)-(0:Int))))) (0:Int)).bind fun mk=>
  (dK mk 0 (0:Int)).bind fun y=>
  mt y)
  else
  (mt ([]:List Int))

def lA(n:Int):Option (List Int):=
 if(decide (n<(0:Int)))then
 (none)
 else
 (mu n)

def i0:List (List Int)->(List Int)->Option (List Int)
 |[],newslice=>
  some newslice
 |e1::tl1,newslice=>
  (jh newslice e1).bind fun newslice1=>
  (i0 tl1) newslice1

def ja(slices:(List (List Int))):List (List Int)->Int->Option (List Int)
 |[],size=>
  (lA size).bind fun r=>
  i0 slices r
 |e::tl,size=>
  if(decide ((IntKind.i64.wrap (size+(e.length:Int)))<(0:Int)))then
  (none)
  else
  ((ja slices tl) (IntKind.i64.wrap (size+(e.length:Int))))

def iK(slices:(List (List Int))):Option (List Int):=
 ja slices slices (0:Int)

def qx(tag:Int):Option Int:=
  if((tag==(1:Int))||(tag==(2:Int)))then
  (some (0:Int))
  else
  (if((decide ((4:Int)<=tag))&&(decide (tag<=(7:Int))))then
  (some (1:Int))
  else
  (if((decide ((12:Int)<=tag))&&(decide (tag<=(23:Int))))then
  (some (2:Int))
  else
  (some (-1:Int))))

def ke(v1:am):Option am:=
 some v1

def pC(v2:am):Option am:=
 ke (am.mk (0:Int) v2.N v2.U v2.S)

def pB(v:am):Option am:=
 pC (am.mk v.Kind (0:Int) v.U v.S)

def pA(v3:am):Option am:=
 ke v3

def vP(v:am):Option am:=
  if(v.Kind==(1:Int))then
  (if((v.N !=(0:Int))&&(v.N !=(1:Int)))then
  (ke v)
  else
  (pB v))
  else
  (if(v.Kind==(2:Int))then
  (pB v)
  else
  (if(v.Kind==(0:Int))then
  (pC v)
  else
  (if(v.Kind==(3:Int))then
  (if(decide ((v.S.length:Int)<=(40:Int)))then
  (pA (am.mk (0:Int) v.N v.U ([])))
  else
  (pA v))
  else
  (if(v.Kind==(4:Int))then
  (ke (am.mk (0:Int) (0:Int) (0:Int) v.S))
  else
  (ke v)))))

def gR(v:am):Option Int:=
 (vP v).bind fun r=>
 if(!decide (r=(⟨(0:Int),(0:Int),(0:Int),[]⟩:am)))then
 (some (120:Int))
 else
 (some (0:Int))

def sP(v:am):Option Bool:=
 (gR v).bind fun r=>
 some ((r==(0:Int))&&(v.Kind !=(4:Int)))

def th(n:ap):Option Bool:=
  if(n.Tag==(1:Int))then
  ((sP n.Value).bind fun r=>
  some (r&&(n.Col==(0:Int))))
  else
  (if(n.Tag==(2:Int))then
  (some (((decide (n.Value=(⟨(0:Int),(0:Int),(0:Int),[]⟩:am)))&&(decide ((0:Int)<=n.Col)))&&(decide (n.Col<(16:Int)))))
  else
  (some ((decide (n.Value=(⟨(0:Int),(0:Int),(0:Int),[]⟩:am)))&&(n.Col==(0:Int)))))

def lZ(nx:Nat->(List Int)->(List Int)->Option ((List Int)×Bool))(i:Nat)(e1:ap)(all:List Int)(open1:List Int)(r:Int):List Int->Nat->Int->(List Int)->Option ((List Int)×Bool)
  |[],i1,first,at1=>
    if(!decide (at1=([e1.L,e1.R])))then
    (some ([],false))
    else
    ((jh all ([first])).bind fun all1=>
    (dK open1 0 (IntKind.i64.wrap ((open1.length:Int)-r))).bind fun y1=>
    (jh y1 ([(i:Int)])).bind fun open2=>
    nx (i+1) all1 open2)
  |e2::tl1,i1,first,at1=>
    (gG all e2).bind fun e3=>
    (gG at1 (i1:Int)).bind fun e4=>
    (some (at1.set (i1:Int).toNat e2)).bind fun ar=>
    (lZ nx i e1 all open1 r tl1) (i1+1) (min first e3) ar

def kx:List ap->Nat->(List Int)->(List Int)->Option ((List Int)×Bool)
  |[],i,all,open1=>
    some (all,(((open1.length:Int)==(1:Int))&&(decide ((all.length:Int)<=(1000:Int)))))
  |e1::tl,i,all,open1=>
    (qx e1.Tag).bind fun r=>
    (if(!((decide (r<(0:Int)))||(decide ((open1.length:Int)<r))))then((th e1).bind fun r1=>
    some (!r1))else some true).bind fun t=>
    if t then
    (some ([],false))
    else
    ((dK open1 (IntKind.i64.wrap ((open1.length:Int)-r)) (open1.length:Int)).bind fun y=>
    lZ (kx tl) i e1 all open1 r y 0 (i:Int) ([(-1:Int),(-1:Int)]))

def wF(e:aR):Option ((List Int)×Bool):=
 kx e.Nodes 0 ([]:List Int) ([]:List Int)

def sw(e:aR):Option Int:=
 (wF e).bind fun r=>
 if(!r.2)then
 (some (200:Int))
 else
 (some (0:Int))

def d6(i:Nat)(y:List Int):Nat->Nat->(List Int)->Int->Option (List Int)
  |0,i1,s1,k=>
    (dK s1 k (s1.length:Int)).bind fun y1=>
    (some (s1.take k.toNat++List.replicate y1.length (0:Int))).bind fun cl=>
    (dK cl 0 k).bind fun y2=>
    some y2
  |k2+1,i1,s1,k=>
    (Ek s1 (i:Int) y.length (i1:Int)).bind fun e3=>
    (Ek s1 (i:Int) y.length (IntKind.i64.wrap ((i1:Int)-(1:Int)))).bind fun e4=>
    if(e3 !=e4)then
    ((Ek s1 (i:Int) y.length (i1:Int)).bind fun e5=>
    (gG s1 k).bind fun e6=>
    (some (s1.set k.toNat e5)).bind fun st=>
    (d6 i y k2) (i1+1) st (IntKind.i64.wrap (k+(1:Int))))
    else
    ((d6 i y k2) (i1+1) s1 k)

def eT(h3:(List Int)):List Int->Nat->Option (List Int)
  |[],i=>
    some h3
  |e::tl,i=>
    (gG h3 (IntKind.i64.wrap ((i:Int)-(1:Int)))).bind fun e1=>
    if(e==e1)then
    ((dK h3 (i:Int) (h3.length:Int)).bind fun y=>
    d6 i y (y.length-1) 1 h3 (i:Int))
    else
    ((eT h3 tl) (i+1))

def jS(h3:(List Int)):Option (List Int):=
 if(decide ((h3.length:Int)<(2:Int)))then
 (some h3)
 else
 (eT h3 (h3.drop (1)) 1)

def mz:List ap->(List Int)->Option (List Int)
  |[],out=>
    (Cu out).bind fun V1=>
    (jS V1).bind fun r1=>
    some r1
  |e1::tl,out=>
    if(e1.Tag==(2:Int))then
    ((jh out ([e1.Col])).bind fun out1=>
    (mz tl) out1)
    else
    ((mz tl) out)

def ul(e:aR):Option (List Int):=
 (sw e).bind fun r=>
 if(r !=(0:Int))then
 (some ([]:List Int))
 else
 (mz e.Nodes ([]:List Int))

def dH(h3:(List Int)):Option (List Int):=
 (jh ([]:List Int) h3).bind fun x=>
 some x

def oN(stack:(List Int))(k:Int):Option ((List Int)×(List Int)):=
 (dK stack (IntKind.i64.wrap ((stack.length:Int)-k)) (stack.length:Int)).bind fun y=>
 (dH y).bind fun r=>
 (dK stack 0 (IntKind.i64.wrap ((stack.length:Int)-k))).bind fun y1=>
 some (r,y1)

def lY(bad:Int)(stack:List Int):Option (Int×Int):=
  if(bad !=(0:Int))then
  (some ((0:Int),bad))
  else
  ((gG stack (0:Int)).bind fun e1=>
  some (e1,(0:Int)))

def hD(do1:(ap->(List Int)->Option (Int×Int))):List ap->Int->(List Int)->Option (Int×Int)
  |[],bad1,stack1=>
    lY bad1 stack1
  |e2::tl,bad1,stack1=>
    (qx e2.Tag).bind fun r=>
    (oN stack1 r).bind fun r1=>
    (do1 e2 r1.1).bind fun r2=>
    if(r2.2 !=(0:Int))then
    (lY r2.2 r1.2)
    else
    ((jh r1.2 ([r2.1])).bind fun l2=>
    (hD do1 tl) bad1 l2)

def oJ(e:aR)(do1:(ap->(List Int)->Option (Int×Int))):Option (Int×Int):=
 hD do1 e.Nodes (0:Int) ([]:List Int)

def vt(tag:Int):Option Bool:=
 some ((tag==(4:Int))||((decide ((12:Int)<=tag))&&(decide (tag<=(15:Int)))))

def ma(kinds:(List Int))(n:ap):List Int->Int->Option (Int×Int)
  |[],own=>
    if(n.Tag==(1:Int))then
    (some (n.Value.Kind,(0:Int)))
    else
    (if(n.Tag==(2:Int))then
    ((gG kinds n.Col).bind fun e1=>
    some (e1,(0:Int)))
    else
    ((vt n.Tag).bind fun r=>
    if r then
    (if((own==(-1:Int))||((own !=(0:Int))&&(own !=(2:Int))))then
    (some ((0:Int),(201:Int)))
    else
    (some ((2:Int),(0:Int))))
    else
    (if(((n.Tag==(5:Int))||(n.Tag==(22:Int)))||(n.Tag==(23:Int)))then
    (if((own==(-1:Int))||((own !=(0:Int))&&(own !=(1:Int))))then
    (some ((0:Int),(201:Int)))
    else
    (some ((1:Int),(0:Int))))
    else
    (if((own==(-1:Int))||((own !=(0:Int))&&(own !=own)))then
    (some ((0:Int),(201:Int)))
    else
    (some ((1:Int),(0:Int)))))))
  |e::tl,own=>
    if((e==(0:Int))||(e==own))then
    ((ma kinds n tl) own)
    else
    (if(own==(0:Int))then
    ((ma kinds n tl) e)
    else
    ((ma kinds n tl) (-1:Int)))

def jt(kinds:(List Int))(n:ap)(l:(List Int)):Option (Int×Int):=
 ma kinds n l (0:Int)

def mw(e:aR)(kinds:(List Int)):List Int->Option (Int×Int)
 |[]=>
  (oJ e (jt kinds)).bind fun r2=>
  some (r2.1,r2.2)
 |e2::tl1=>
  if(decide ((kinds.length:Int)<=e2))then
  (some ((0:Int),(2:Int)))
  else
  ((mw e kinds tl1))

def pU(e:aR)(kinds:(List Int)):List Int->Option (Int×Int)
 |[]=>
  (ul e).bind fun r1=>
  mw e kinds r1
 |e1::tl=>
  if((decide (e1<(0:Int)))||(decide ((3:Int)<e1)))then
  (some ((0:Int),(2:Int)))
  else
  ((pU e kinds tl))

def mT(e:aR)(kinds:(List Int)):Option (Int×Int):=
 (sw e).bind fun r=>
 if(r !=(0:Int))then
 (some ((0:Int),r))
 else
 (pU e kinds kinds)

def jH(e:aR)(kinds:(List Int)):Option Bool:=
 (mT e kinds).bind fun r=>
 some ((r.2==(0:Int))&&((r.1==(0:Int))||(r.1==(1:Int))))

def gx(l:al):Option (Bool×al):=
 (iK ([l.a_,l.b])).bind fun r=>
 (jH ((({l with result:=r}:al).n).Cond) (({l with result:=r}:al).result)).bind fun r1=>
 some (r1,({l with result:=r}:al))

def fd(l:al):Option (Bool×al):=
 (jH ((({l with result:=l.a_}:al).n).Cond) (({l with result:=l.a_}:al).a_)).bind fun r=>
 some (r,({l with result:=l.a_}:al))

def ek(nx1:Bool->al->Option (Bool×al))(ob1:al)(ok1:Bool)(k:Int):Option (Bool×al):=
 (jh ob1.result ([k])).bind fun l7=>
 nx1 ok1 ({ob1 with result:=l7}:al)

def gI(nx1:Bool->al->Option (Bool×al))(e1:fI)(ok:Bool)(ob1:al)(r:Int×Int)(x:Bool):Option (Bool×al):=
 if x then
 (ek nx1 ob1 (((ok&&(r.2==(0:Int)))&&(decide ((1:Int)<e1.Tag)))&&(decide (e1.Tag<=(5:Int)))) r.1)
 else
 (ek nx1 ob1 (((ok&&(r.2==(0:Int)))&&(decide ((1:Int)<e1.Tag)))&&(decide (e1.Tag<=(5:Int)))) (2:Int))

def cr:List fI->Bool->al->Option (Bool×al)
  |[],ok,ob1=>
    some (ok,ob1)
  |e1::tl1,ok,ob1=>
    if(e1.Tag==(1:Int))then
    (ek (cr tl1) ob1 (ok&&((e1.Arg.Nodes.length:Int)==(0:Int))) (2:Int))
    else
    ((mT e1.Arg ob1.a_).bind fun r=>
    if(e1.Tag==(3:Int))then
    (ek (cr tl1) ob1 ((((ok&&(r.2==(0:Int)))&&(decide ((1:Int)<e1.Tag)))&&(decide (e1.Tag<=(5:Int))))&&((r.1==(2:Int))||(r.1==(0:Int)))) (2:Int))
    else
    (if(e1.Tag==(4:Int))then
    (gI (cr tl1) e1 ok ob1 r (e1.Tag==(4:Int)))
    else
    (gI (cr tl1) e1 ok ob1 r (e1.Tag==(5:Int)))))

def dk(l:al):List Int->al->Option (Bool×al)
  |[],ob=>
    cr l.n.Aggs (((decide ((l.n.Keys.length:Int)<=(3:Int)))&&(decide ((l.n.Aggs.length:Int)<=(12:Int))))&&(decide ((0:Int)<(IntKind.i64.wrap ((l.n.Keys.length:Int)+(l.n.Aggs.length:Int)))))) ob
  |e::tl,ob=>
    if((decide (e<(0:Int)))||(decide ((ob.a_.length:Int)<=e)))then
    (some (false,ob))
    else
    ((gG ob.a_ e).bind fun e2=>
    (jh ob.result ([e2])).bind fun l9=>
    (dk l tl) ({ob with result:=l9}:al))

def d7(l:al):Option (Bool×al):=
 dk l l.n.Keys ({l with result:=([]:List Int)}:al)

def eS:List fI->Nat->al->Option (Bool×al)
  |[],i1,ob=>
    some (true,ob)
  |e::tl,i1,ob=>
    if(e.Tag==(3:Int))then
    ((gG ob.result (IntKind.i64.wrap ((ob.n.Keys.length:Int)+(i1:Int)))).bind fun e1=>
    (some (ob.result.set (IntKind.i64.wrap ((ob.n.Keys.length:Int)+(i1:Int))).toNat (4:Int))).bind fun st=>
    (eS tl) (i1+1) ({ob with result:=st}:al))
    else
    ((eS tl) (i1+1) ob)

def eJ(l:al):Option (Bool×al):=
 (d7 l).bind fun r=>
 if(!r.1)then
 (some (false,r.2))
 else
 (eS r.2.n.Aggs 0 r.2)

def gJ(nx1:Nat->Bool->al->Option (Bool×al))(i1:Nat)(e2:fI)(ok1:Bool)(ob:al)(e3:Int)(x1:Bool):Option (Bool×al):=
 if x1 then
 (nx1 (i1+1) ((ok1&&((e2.Arg.Nodes.length:Int)==(0:Int)))&&(e3 !=(4:Int))) ob)
 else
 (nx1 (i1+1) false ob)

def eV(l:al)(nx1:Nat->Bool->al->Option (Bool×al))(i1:Nat)(e2:fI)(ok1:Bool)(ob:al)(e3:Int)(x:Bool):Option (Bool×al):=
  if x then
  (nx1 (i1+1) ((ok1&&((e2.Arg.Nodes.length:Int)==(0:Int)))&&(e3==(2:Int))) ob)
  else
  (if(e2.Tag==(3:Int))then
  ((gG ob.result (IntKind.i64.wrap ((l.n.Keys.length:Int)+(i1:Int)))).bind fun e4=>
  (some (ob.result.set (IntKind.i64.wrap ((l.n.Keys.length:Int)+(i1:Int))).toNat (2:Int))).bind fun st=>
  nx1 (i1+1) ((ok1&&((e2.Arg.Nodes.length:Int)==(0:Int)))&&(e3==(4:Int))) ({ob with result:=st}:al))
  else
  (if(e2.Tag==(4:Int))then
  (gJ nx1 i1 e2 ok1 ob e3 (e2.Tag==(4:Int)))
  else
  (gJ nx1 i1 e2 ok1 ob e3 (e2.Tag==(5:Int)))))

def bX(l:al):List fI->Nat->Bool->al->Option (Bool×al)
 |[],i1,ok1,ob=>
  some (ok1,ob)
 |e2::tl1,i1,ok1,ob=>
  (gG ob.a_ (IntKind.i64.wrap ((l.n.Keys.length:Int)+(i1:Int)))).bind fun e3=>
  if(e2.Tag==(1:Int))then
  (eV l (bX l tl1) i1 e2 ok1 ob e3 (e2.Tag==(1:Int)))
  else
  (eV l (bX l tl1) i1 e2 ok1 ob e3 (e2.Tag==(2:Int)))

def dP(l:al)(r:(List Int)):List Int->Nat->Bool->Option (Bool×al)
  |[],i,ok=>
    bX l l.n.Aggs 0 ok ({l with result:=r}:al)
  |e1::tl,i,ok=>
    (if(ok&&(e1==(i:Int)))then((gG l.a_ (i:Int)).bind fun e5=>
    some (e5 !=(4:Int)))else some false).bind fun t=>
    (dP l r tl) (i+1) t

def d8(l:al):Option (Bool×al):=
  (gG l.nodes l.n.A).bind fun e=>
  if(!((((e.Op==(9:Int))&&(decide ((l.n.Keys.length:Int)<=(3:Int))))&&(decide ((l.n.Aggs.length:Int)<=(12:Int))))&&((IntKind.i64.wrap ((l.n.Keys.length:Int)+(l.n.Aggs.length:Int)))==(l.a_.length:Int))))then
  (some (false,l))
  else
  ((dH l.a_).bind fun r=>
  dP l r l.n.Keys 0 ((((e.Op==(9:Int))&&(decide ((l.n.Keys.length:Int)<=(3:Int))))&&(decide ((l.n.Aggs.length:Int)<=(12:Int))))&&((IntKind.i64.wrap ((l.n.Keys.length:Int)+(l.n.Aggs.length:Int)))==(l.a_.length:Int))))

def eb:List aR->al->Option (Bool×al)
  |[],ob=>
    some (decide ((0:Int)<(ob.result.length:Int)),ob)
  |e::tl,ob=>
    (mT e ob.a_).bind fun r=>
    if(r.2 !=(0:Int))then
    (some (false,ob))
    else
    ((jh ob.result ([r.1])).bind fun l4=>
    (eb tl) ({ob with result:=l4}:al))

def ib(l:al):Option (Bool×al):=
 eb l.n.Items ({l with result:=([]:List Int)}:al)

def kM(l:al):Option (Bool×al):=
 some (true,({l with result:=l.a_}:al))

def eU(nx:Nat->al->Option (Bool×al))(i:Nat)(ob:al)(e1:Int)(k:Int):Option (Bool×al):=
  if((e1 !=(0:Int))&&(e1 !=k))then
  (some (false,ob))
  else
  ((jh ob.result ([k])).bind fun l4=>
  nx (i+1) ({ob with result:=l4}:al))

def dj:List Int->Nat->al->Option (Bool×al)
 |[],i,ob=>
  some (true,ob)
 |e::tl,i,ob=>
  (gG ob.b (i:Int)).bind fun e1=>
  if(e==(0:Int))then
  (eU (dj tl) i ob e1 e1)
  else
  (eU (dj tl) i ob e1 e)

def iA(l:al):Option (Bool×al):=
 if((l.a_.length:Int) !=(l.b.length:Int))then
 (some (false,l))
 else
 (dj l.a_ 0 ({l with result:=([]:List Int)}:al))

def dG(f:(kF->Option Bool)):List kF->Nat->Option Int
 |[],i=>
  some (-1:Int)
 |e::tl,i=>
  (f e).bind fun r=>
  if r then
  (some (i:Int))
  else
  ((dG f tl) (i+1))

def hY(h3:(List kF))(f:(kF->Option Bool)):Option Int:=
 dG f h3 0

def eI(h3:(List kF))(f:(kF->Option Bool)):Option Bool:=
 (hY h3 f).bind fun r=>
 some (decide ((0:Int)<=r))

def lR(l:al)(o:kF):Option Bool:=
 some ((decide (o.Col<(0:Int)))||(decide ((l.a_.length:Int)<=o.Col)))

def jp(l:al):Option (Bool×al):=
 (eI ((({l with result:=l.a_}:al).n).Order) (lR ({l with result:=l.a_}:al))).bind fun r=>
 some (((((!r)&&(decide ((((({l with result:=l.a_}:al).n).Order).length:Int)<=(3:Int))))&&(decide ((-1:Int)<=((({l with result:=l.a_}:al).n).Limit))))&&(decide (((({l with result:=l.a_}:al).n).Limit)<=(2147483647:Int)))),({l with result:=l.a_}:al))

def mL:Option (List (Int×(al->Unit->Option (Bool×al)))):=
 some (fV (fV (fV (fV (fV (fV (fV (fV (fV (fV (fV ([]:List (Int×(al->Unit->Option (Bool×al)))) (1:Int) (fun(mc:al) (mx:Unit)=>jq mc)) (9:Int) (fun(mc:al) (mx:Unit)=>iB mc)) (2:Int) (fun(mc:al) (mx:Unit)=>gx mc)) (3:Int) (fun(mc:al) (mx:Unit)=>fd mc)) (4:Int) (fun(mc:al) (mx:Unit)=>d7 mc)) (10:Int) (fun(mc:al) (mx:Unit)=>eJ mc)) (11:Int) (fun(mc:al) (mx:Unit)=>d8 mc)) (5:Int) (fun(mc:al) (mx:Unit)=>ib mc)) (6:Int) (fun(mc:al) (mx:Unit)=>kM mc)) (7:Int) (fun(mc:al) (mx:Unit)=>iA mc)) (8:Int) (fun(mc:al) (mx:Unit)=>jp mc))

def jc(x2:Bool):Option Int:=
 if x2 then
 (some (1:Int))
 else
 (some (-1:Int))

def qI(op:Int)(x1:Bool):Option Int:=
  if x1 then
  (some (2:Int))
  else
  (if(op==(3:Int))then
  (jc (op==(3:Int)))
  else
  (if(op==(4:Int))then
  (jc (op==(4:Int)))
  else
  (if(op==(5:Int))then
  (jc (op==(5:Int)))
  else
  (if(op==(6:Int))then
  (jc (op==(6:Int)))
  else
  (if(op==(8:Int))then
  (jc (op==(8:Int)))
  else
  (if(op==(10:Int))then
  (jc (op==(10:Int)))
  else
  (jc (op==(11:Int)))))))))

def qJ(op:Int)(x:Bool):Option Int:=
  if x then
  (some (0:Int))
  else
  (if(op==(2:Int))then
  (qI op (op==(2:Int)))
  else
  (qI op (op==(7:Int))))

def uM(op:Int):Option Int:=
 if(op==(1:Int))then
 (qJ op (op==(1:Int)))
 else
 (qJ op (op==(9:Int)))

def ql(n:aa):Option Bool:=
 some ((((((((n.Op==(1:Int))||(n.Op==(9:Int)))||((n.Table==(0:Int))&&((n.Kinds.length:Int)==(0:Int))))&&((n.Op==(2:Int))||(!n.Left)))&&(((n.Op==(2:Int))||(n.Op==(3:Int)))||((n.Cond.Nodes.length:Int)==(0:Int))))&&((((n.Op==(4:Int))||(n.Op==(10:Int)))||(n.Op==(11:Int)))||((IntKind.i64.wrap ((n.Keys.length:Int)+(n.Aggs.length:Int)))==(0:Int))))&&((n.Op==(5:Int))||((n.Items.length:Int)==(0:Int))))&&((n.Op==(8:Int))||(((n.Order.length:Int)==(0:Int))&&(n.Limit==(0:Int)))))

def gT(v:Int):List Int->Nat->Option Int
 |[],i=>
  some (-1:Int)
 |e::tl,i=>
  if(v==e)then
  (some (i:Int))
  else
  ((gT v tl) (i+1))

def np(h3:(List Int))(v:Int):Option Int:=
 gT v h3 0

def fL(h3:(List Int))(v:Int):Option Bool:=
 (np h3 v).bind fun r=>
 some (decide ((0:Int)<=r))

def bc(l:al)(i:Int)(ask:(al->Unit->Option (Bool×al)))(e:aa)(r:Int):List Int->Nat->(List Int)->(List Int)->Option (Bool×al)
  |[],i5,a_,b3=>
    if(((e.Op==(8:Int))||(e.Op==(10:Int)))&&(i !=(IntKind.i64.wrap (((({({({({({l with n:=e}:al)with a_:=[]}:al)with b:=[]}:al)with a_:=a_}:al)with b:=b3}:al).nodes).length:Int)-(1:Int)))))then
    (some (false,({({({({({l with n:=e}:al)with a_:=[]}:al)with b:=[]}:al)with a_:=a_}:al)with b:=b3}:al)))
    else
    ((ask ({({({({({l with n:=e}:al)with a_:=[]}:al)with b:=[]}:al)with a_:=a_}:al)with b:=b3}:al) ()).bind fun r2=>
    if((!r2.1)||(decide ((16:Int)<(r2.2.result.length:Int))))then
    (some (false,r2.2))
    else
    ((jh r2.2.kinds ([r2.2.result])).bind fun l1=>
    (dK r2.2.open_ 0 (IntKind.i64.wrap ((r2.2.open_.length:Int)-r))).bind fun y2=>
    (jh y2 ([i])).bind fun l2=>
    some (true,({({r2.2 with kinds:=l1}:al)with open_:=l2}:al))))
  |e1::tl,i5,a_,b3=>
    (gG l.kinds e1).bind fun e2=>
    (if(e.Op !=(11:Int))then((fL e2 (4:Int)).bind fun r3=>
    some r3)else some false).bind fun t1=>
    if t1 then
    (some (false,({({({({({l with n:=e}:al)with a_:=[]}:al)with b:=[]}:al)with a_:=a_}:al)with b:=b3}:al)))
    else
    (if((i5:Int)==(0:Int))then
    ((bc l i ask e r tl) (i5+1) (({({({({({({l with n:=e}:al)with a_:=[]}:al)with b:=[]}:al)with a_:=a_}:al)with b:=b3}:al)with a_:=e2}:al).a_) (({({({({({({l with n:=e}:al)with a_:=[]}:al)with b:=[]}:al)with a_:=a_}:al)with b:=b3}:al)with a_:=e2}:al).b))
    else
    ((bc l i ask e r tl) (i5+1) (({({({({({({l with n:=e}:al)with a_:=[]}:al)with b:=[]}:al)with a_:=a_}:al)with b:=b3}:al)with b:=e2}:al).a_) (({({({({({({l with n:=e}:al)with a_:=[]}:al)with b:=[]}:al)with a_:=a_}:al)with b:=b3}:al)with b:=e2}:al).b)))

def dA(l:al)(i:Int)(ask:(al->Unit->Option (Bool×al))):Option (Bool×al):=
  (gG l.nodes i).bind fun e=>
  (uM e.Op).bind fun r=>
  (if(!((decide (r<(0:Int)))||(decide ((l.open_.length:Int)<r))))then((ql e).bind fun r1=>
  some (!r1))else some true).bind fun t=>
  if t then
  (some (false,l))
  else
  ((dK l.open_ (IntKind.i64.wrap ((l.open_.length:Int)-r)) (l.open_.length:Int)).bind fun y=>
  if(!decide ((ol ([(-1:Int),(-1:Int)]) y)=([e.A,e.B])))then
  (some (false,l))
  else
  ((dK l.open_ (IntKind.i64.wrap ((l.open_.length:Int)-r)) (l.open_.length:Int)).bind fun y1=>
  bc l i ask e r y1 0 (({({({l with n:=e}:al)with a_:=[]}:al)with b:=[]}:al).a_) (({({({l with n:=e}:al)with a_:=[]}:al)with b:=[]}:al).b)))

def mM:List (List Int)->(List (List Int))->Option ((List (List Int))×Int×Int)
 |[],out=>
  some (out,(0:Int),(0:Int))
 |e::tl,out=>
  (dH e).bind fun r1=>
  (jh out ([r1])).bind fun out1=>
  (mM tl) out1

def li(ob:al)(wrong1:Int):Option ((List (List Int))×Int×Int):=
 if(decide ((0:Int)<=wrong1))then
 (some ([],wrong1,(291:Int)))
 else
 (mM ob.kinds ([]:List (List Int)))

def j6(nodes:(List aa))(wrong:Int)(ob:al):Option ((List (List Int))×Int×Int):=
 if((decide (wrong<(0:Int)))&&((ob.open_.length:Int) !=(1:Int)))then
 (li ob (IntKind.i64.wrap ((nodes.length:Int)-(1:Int))))
 else
 (li ob wrong)

def fU(nodes:(List aa))(r:(List (Int×(al->Unit->Option (Bool×al))))):List aa->Nat->Int->al->Option ((List (List Int))×Int×Int)
 |[],i1,wrong2,ob1=>
  j6 nodes wrong2 ob1
 |e1::tl1,i1,wrong2,ob1=>
  (dA ob1 (i1:Int) ((tL r e1.Op).getD (fun _ _=>none))).bind fun r2=>
  if(!r2.1)then
  (j6 nodes (i1:Int) r2.2)
  else
  ((fU nodes r tl1) (i1+1) wrong2 r2.2)

def jI(nodes:(List aa)):Option ((List (List Int))×Int×Int):=
  if((decide ((nodes.length:Int)<(1:Int)))||(decide ((60:Int)<(nodes.length:Int))))then
  (some ([],(0:Int),(291:Int)))
  else
  ((mL).bind fun r=>
  fU nodes r nodes 0 (-1:Int) (⟨nodes,[],[],(⟨(0:Int),(0:Int),(0:Int),(0:Int),[],false,(⟨[]⟩:aR),[],[],[],[],(0:Int)⟩:aa),[],[],[]⟩:al))

def mS(p:da):List dC->Option Bool
  |[]=>
    some ((decide ((1:Int)<=(p.Frags.length:Int)))&&(decide ((p.Frags.length:Int)<=(30:Int))))
  |e::tl=>
    (jI e.Nodes).bind fun r=>
    (if(((decide ((1:Int)<=e.Way))&&(decide (e.Way<=(4:Int))))&&(decide ((e.Cols.length:Int)<=(16:Int))))then((eo e.Cols pR).bind fun r1=>
    some (!r1))else some false).bind fun t=>
    if(((r.2.2 !=(0:Int))||(!((e.At==(1:Int))||(e.At==(2:Int)))))||(!t))then
    (some false)
    else
    ((mS p tl))

def sm(p:da):Option Bool:=
 mS p p.Frags

def uQ(n:Int):Option Bool:=
 some ((decide ((1:Int)<=n))&&(decide (n<=(2147483647:Int))))

def dF(f:((List am)->Option Bool)):List (List am)->Nat->Option Int
 |[],i=>
  some (-1:Int)
 |e::tl,i=>
  (f e).bind fun r=>
  if r then
  (some (i:Int))
  else
  ((dF f tl) (i+1))

def hX(h3:(List (List am)))(f:((List am)->Option Bool)):Option Int:=
 dF f h3 0

def eH(h3:(List (List am)))(f:((List am)->Option Bool)):Option Bool:=
 (hX h3 f).bind fun r=>
 some (decide ((0:Int)<=r))

def qU(v:am):Option Bool:=
 (gR v).bind fun r=>
 some (r !=(0:Int))

def cW(f:(am->Option Bool)):List am->Nat->Option Int
 |[],i=>
  some (-1:Int)
 |e::tl,i=>
  (f e).bind fun r=>
  if r then
  (some (i:Int))
  else
  ((cW f tl) (i+1))

def kf(h3:(List am))(f:(am->Option Bool)):Option Int:=
 cW f h3 0

def f6(h3:(List am))(f:(am->Option Bool)):Option Bool:=
 (kf h3 f).bind fun r=>
 some (decide ((0:Int)<=r))

def wV(r:(List am)):Option Bool:=
  (if(decide ((r.length:Int)<=(16:Int)))then((f6 r qU).bind fun r1=>
  some (!r1))else some false).bind fun t=>
  some t

def wW(r:(List am)):Option Int:=
 (wV r).bind fun r1=>
 if(!r1)then
 (some (150:Int))
 else
 (some (0:Int))

def wm(r:(List am)):Option Bool:=
 (wW r).bind fun r1=>
 some (r1 !=(0:Int))

def xa(l:(List (List am))):Option Bool:=
  (if((decide ((0:Int)<(l.length:Int)))&&(decide ((l.length:Int)<=(4:Int))))then((eH l wm).bind fun r=>
  some (!r))else some false).bind fun t=>
  some t

def uR(b:bH)(seq:Int):Option Bool:=
  if((decide (seq<(1:Int)))||(decide ((1099511627776:Int)<seq)))then
  (some false)
  else
  (if b.End then
  (some (((b.Rows.length:Int)==(0:Int))&&(b.Count==(IntKind.u64.wrap (seq-(1:Int))))))
  else
  ((if(b.Count==(0:Int))then((xa b.Rows).bind fun r=>
  some r)else some false).bind fun t=>
  some t))

def t8(a1:(List am))(b:(List am)):Option Bool:=
 (dJ a1 b).bind fun r=>
 some r

def y8(a1:(List (List am)))(b:(List (List am))):Option Bool:=
 (ce a1 b t8).bind fun r=>
 some r

def w9(a1:bH)(b:bH):Option Bool:=
  (if((a1.End==b.End)&&(a1.Count==b.Count))then((y8 a1.Rows b.Rows).bind fun r=>
  some r)else some false).bind fun t=>
  some t

def n6(p:aO):Option Int:=
  (uQ p.Session).bind fun r=>
  if(p.Kind==(1:Int))then
  ((if(r&&(p.Limit==(0:Int)))then((uR p.Batch p.Seq).bind fun r1=>
  some r1)else some false).bind fun t=>
  if(!t)then
  (some (321:Int))
  else
  (some (0:Int)))
  else
  (if(p.Kind==(2:Int))then
  ((if r then((w9 p.Batch (⟨[],false,(0:Int)⟩:bH)).bind fun r2=>
  some r2)else some false).bind fun t1=>
  if(!((((t1&&(decide ((1:Int)<=p.Seq)))&&(decide (p.Seq<=(1099511627777:Int))))&&(decide ((IntKind.u64.wrap (p.Seq-(1:Int)))<=p.Limit)))&&(decide (p.Limit<=(1099511627776:Int)))))then
  (some (321:Int))
  else
  (some (0:Int)))
  else
  (if(!false)then
  (some (321:Int))
  else
  (some (0:Int))))

def ip(m:ci)(kind:Int):Option Bool:=
  (if(((decide ((0:Int)<=m.Frag))&&(decide (m.Frag<(30:Int))))&&(m.Packet.Kind==kind))then((n6 m.Packet).bind fun r=>
  some (r==(0:Int)))else some false).bind fun t=>
  some t

def mI(m:ci)(x:Bool):Option Bool:=
  if x then
  (some true)
  else
  (if(m.Kind==(3:Int))then
  (((ip m) (1:Int)).bind fun r1=>
  some r1)
  else
  (if(m.Kind==(4:Int))then
  (((ip m) (2:Int)).bind fun r2=>
  some r2)
  else
  (if(m.Kind==(5:Int))then
  (some ((m.Err==(140:Int))||(m.Err==(300:Int))))
  else
  (some false))))

def rt(m:ci):Option Bool:=
  if(m.Kind==(1:Int))then
  ((if((decide ((1:Int)<=m.Sites))&&(decide (m.Sites<=(8:Int))))then((sm m.Plan).bind fun r=>
  some r)else some false).bind fun t=>
  some t)
  else
  (if(m.Kind==(2:Int))then
  (mI m (m.Kind==(2:Int)))
  else
  (if(m.Kind==(6:Int))then
  (mI m (m.Kind==(6:Int)))
  else
  (mI m (m.Kind==(7:Int)))))

def ml(m:ci):Option Bool:=
  (mR m.From).bind fun r=>
  (if r then((mR m.To).bind fun r1=>
  some r1)else some false).bind fun t=>
  (if((t&&(decide ((1:Int)<=m.Epoch)))&&(decide (m.Epoch<=(12:Int))))then((s6 m).bind fun r2=>
  some r2)else some false).bind fun t1=>
  (if t1 then((rt m).bind fun r3=>
  some r3)else some false).bind fun t2=>
  some t2

def ft:List Int->aP->Option aP
 |[],ob=>
  some ob
 |e::tl,ob=>
  (jh ob.bytes ([(IntKind.u8.wrap e)])).bind fun l2=>
  (ft tl) ({ob with bytes:=l2}:aP)

def bY(w1:aP)(l:(List Int)):Option aP:=
 ft l w1

def jB(w1:aP)(l:(List Int)):Option aP:=
 (bY w1 ([(l.length:Int)])).bind fun r=>
 (bY r l).bind fun r1=>
 some r1

def eM(w1:aP)(n:aa):Option aP:=
 (bY w1 ([n.Table])).bind fun r=>
 (jB r n.Kinds).bind fun r1=>
 some r1

def kZ(w1:aP)(n:Int):Option aP:=
 (bY w1 ([n])).bind fun r=>
 some r

def gj(w1:aP)(is1:Bool):Option aP:=
 if is1 then
 (kZ w1 (1:Int))
 else
 (kZ w1 (0:Int))

def jO(p:Int)(bytes:Int):Nat->(List Int)->Int->Option (List Int)
  |0,_,_=>none
  |n+1,out1,x=>
    if(decide (x<bytes))then
    ((V4 (IntKind.i64.wrap ((IntKind.i64.wrap ((8:Int)*(IntKind.i64.wrap (bytes-x))))-(8:Int)))).bind fun u=>
    (jh out1 ([(IntKind.u8.wrap (((IntKind.u64.wrap p)).fdiv (2^(min (Int.toNat (IntKind.i64.wrap ((IntKind.i64.wrap ((8:Int)*(IntKind.i64.wrap (bytes-x))))-(8:Int)))) IntKind.u64.bits))))])).bind fun out2=>
    (jO p bytes n) out2 (IntKind.i64.wrap (x+(1:Int))))
    else
    (some out1)

def qq(b:(List Int))(p:Int)(bytes:Int):Option (List Int):=
 (vO (0:Int) (IntKind.i64.wrap ((b.length:Int)+bytes)) (0:Int)).bind fun mk=>
 (jh mk b).bind fun out=>
 jO p bytes eQ out (0:Int)

def pi(b:(List Int))(p:Int):Option (List Int):=
 (qq b p (2:Int)).bind fun r=>
 some r

def dZ(p:Int)(bytes:Int):Nat->(List Int)->Int->Option (List Int)
  |0,_,_=>none
  |n+1,out1,x=>
    if(decide (x<bytes))then
    ((V4 (IntKind.i64.wrap ((IntKind.i64.wrap ((8:Int)*(IntKind.i64.wrap (bytes-x))))-(8:Int)))).bind fun u=>
    (jh out1 ([(IntKind.u8.wrap ((p).fdiv (2^(min (Int.toNat (IntKind.i64.wrap ((IntKind.i64.wrap ((8:Int)*(IntKind.i64.wrap (bytes-x))))-(8:Int)))) IntKind.u64.bits))))])).bind fun out2=>
    (dZ p bytes n) out2 (IntKind.i64.wrap (x+(1:Int))))
    else
    (some out1)

def qo(b:(List Int))(p:Int)(bytes:Int):Option (List Int):=
 (vO (0:Int) (IntKind.i64.wrap ((b.length:Int)+bytes)) (0:Int)).bind fun mk=>
 (jh mk b).bind fun out=>
 dZ p bytes eQ out (0:Int)

def jr(b:(List Int))(p:Int):Option (List Int):=
 (qo b p (8:Int)).bind fun r=>
 some r

def q5(v:am):Option ((List Int)×Int):=
  (gR v).bind fun r=>
  if(r !=(0:Int))then
  (some ([],r))
  else
  (if(v.Kind==(1:Int))then
  ((jh ([(IntKind.u8.wrap v.Kind)]) ([(IntKind.u8.wrap v.N)])).bind fun b=>
  some (b,(0:Int)))
  else
  (if(v.Kind==(2:Int))then
  ((jr ([(IntKind.u8.wrap v.Kind)]) (IntKind.u64.wrap v.N)).bind fun r1=>
  some (r1,(0:Int)))
  else
  (if(v.Kind==(3:Int))then
  ((jh ([(IntKind.u8.wrap v.Kind)]) ([(IntKind.u8.wrap (v.S.length:Int))])).bind fun l3=>
  (jh l3 (lI v.S)).bind fun b1=>
  some (b1,(0:Int)))
  else
  (if(v.Kind==(4:Int))then
  ((jr ([(IntKind.u8.wrap v.Kind)]) (IntKind.u64.wrap v.N)).bind fun r2=>
  (jr r2 v.U).bind fun r3=>
  some (r3,(0:Int)))
  else
  (some ([(IntKind.u8.wrap v.Kind)],(0:Int)))))))

def dI:List ap->aP->Option aP
  |[],ob=>
    some ob
  |e1::tl,ob=>
    (bY ob ([e1.Tag])).bind fun r1=>
    if(e1.Tag==(2:Int))then
    ((bY r1 ([e1.Col])).bind fun r2=>
    (dI tl) r2)
    else
    (if(e1.Tag==(1:Int))then
    ((q5 e1.Value).bind fun r3=>
    (jh r1.bytes r3.1).bind fun l1=>
    (dI tl) ({r1 with bytes:=l1}:aP))
    else
    ((dI tl) r1))

def ij(w1:aP)(e:aR):Option aP:=
 (pi w1.bytes (IntKind.u16.wrap (e.Nodes.length:Int))).bind fun r=>
 dI e.Nodes ({w1 with bytes:=r}:aP)

def ii(w1:aP)(n:aa):Option aP:=
 (gj w1 n.Left).bind fun r=>
 (ij r n.Cond).bind fun r1=>
 some r1

def gh(w1:aP)(n:aa):Option aP:=
 (ij w1 n.Cond).bind fun r=>
 some r

def go:List fI->aP->Option aP
 |[],ob=>
  some ob
 |e::tl,ob=>
  (bY ob ([e.Tag])).bind fun r2=>
  (ij r2 e.Arg).bind fun r3=>
  (go tl) r3

def dQ(w1:aP)(n:aa):Option aP:=
 (jB w1 n.Keys).bind fun r=>
 (bY r ([(n.Aggs.length:Int)])).bind fun r1=>
 go n.Aggs r1

def fN:List aR->aP->Option aP
 |[],ob=>
  some ob
 |e::tl,ob=>
  (ij ob e).bind fun r1=>
  (fN tl) r1

def fR(w1:aP)(n:aa):Option aP:=
 (bY w1 ([(n.Items.length:Int)])).bind fun r=>
 fN n.Items r

def jN(p:Int)(bytes:Int):Nat->(List Int)->Int->Option (List Int)
  |0,_,_=>none
  |n+1,out1,x=>
    if(decide (x<bytes))then
    ((V4 (IntKind.i64.wrap ((IntKind.i64.wrap ((8:Int)*(IntKind.i64.wrap (bytes-x))))-(8:Int)))).bind fun u=>
    (jh out1 ([(IntKind.u8.wrap (((IntKind.u64.wrap p)).fdiv (2^(min (Int.toNat (IntKind.i64.wrap ((IntKind.i64.wrap ((8:Int)*(IntKind.i64.wrap (bytes-x))))-(8:Int)))) IntKind.u64.bits))))])).bind fun out2=>
    (jN p bytes n) out2 (IntKind.i64.wrap (x+(1:Int))))
    else
    (some out1)

def qp(b:(List Int))(p:Int)(bytes:Int):Option (List Int):=
 (vO (0:Int) (IntKind.i64.wrap ((b.length:Int)+bytes)) (0:Int)).bind fun mk=>
 (jh mk b).bind fun out=>
 jN p bytes eQ out (0:Int)

def mj(b:(List Int))(p:Int):Option (List Int):=
 (qp b p (4:Int)).bind fun r=>
 some r

def gn(n:aa):List kF->aP->Option aP
 |[],ob=>
  (mj ob.bytes (IntKind.u32.wrap (IntKind.i64.wrap (n.Limit+(1:Int))))).bind fun r1=>
  some ({ob with bytes:=r1}:aP)
 |e::tl,ob=>
  (bY ob ([e.Col])).bind fun r2=>
  (gj r2 e.Desc).bind fun r3=>
  (gn n tl) r3

def gK(w1:aP)(n:aa):Option aP:=
 (bY w1 ([(n.Order.length:Int)])).bind fun r=>
 gn n n.Order r

def ed(nx:aP->Option aP):List aa->aP->Option aP
  |[],ob1=>
    nx ob1
  |e1::tl1,ob1=>
    (bY ob1 ([e1.Op])).bind fun r4=>
    if((tL (fV (fV (fV (fV (fV (fV (fV (fV (fV ([]:List (Int×(aP->aa->Option (Unit×aP)))) (1:Int) (fun(mc:aP) (mx:aa)=>(eM mc mx).map fun mr=>((),mr))) (9:Int) (fun(mc:aP) (mx:aa)=>(eM mc mx).map fun mr=>((),mr))) (2:Int) (fun(mc:aP) (mx:aa)=>(ii mc mx).map fun mr=>((),mr))) (3:Int) (fun(mc:aP) (mx:aa)=>(gh mc mx).map fun mr=>((),mr))) (4:Int) (fun(mc:aP) (mx:aa)=>(dQ mc mx).map fun mr=>((),mr))) (10:Int) (fun(mc:aP) (mx:aa)=>(dQ mc mx).map fun mr=>((),mr))) (11:Int) (fun(mc:aP) (mx:aa)=>(dQ mc mx).map fun mr=>((),mr))) (5:Int) (fun(mc:aP) (mx:aa)=>(fR mc mx).map fun mr=>((),mr))) (8:Int) (fun(mc:aP) (mx:aa)=>(gK mc mx).map fun mr=>((),mr))) e1.Op).isSome)then
    ((((tL (fV (fV (fV (fV (fV (fV (fV (fV (fV ([]:List (Int×(aP->aa->Option (Unit×aP)))) (1:Int) (fun(mc:aP) (mx:aa)=>(eM mc mx).map fun mr=>((),mr))) (9:Int) (fun(mc:aP) (mx:aa)=>(eM mc mx).map fun mr=>((),mr))) (2:Int) (fun(mc:aP) (mx:aa)=>(ii mc mx).map fun mr=>((),mr))) (3:Int) (fun(mc:aP) (mx:aa)=>(gh mc mx).map fun mr=>((),mr))) (4:Int) (fun(mc:aP) (mx:aa)=>(dQ mc mx).map fun mr=>((),mr))) (10:Int) (fun(mc:aP) (mx:aa)=>(dQ mc mx).map fun mr=>((),mr))) (11:Int) (fun(mc:aP) (mx:aa)=>(dQ mc mx).map fun mr=>((),mr))) (5:Int) (fun(mc:aP) (mx:aa)=>(fR mc mx).map fun mr=>((),mr))) (8:Int) (fun(mc:aP) (mx:aa)=>(gK mc mx).map fun mr=>((),mr))) e1.Op).getD (fun _ _=>none)) r4 (e1)).bind fun r5=>
    (ed nx tl1) r5.2)
    else
    ((ed nx tl1) r4)

def fS:List dC->aP->Option aP
 |[],ob=>
  some ob
 |e::tl,ob=>
  (bY ob ([e.At,e.Way])).bind fun r1=>
  (jB r1 e.Cols).bind fun r2=>
  (bY r2 ([(e.Nodes.length:Int)])).bind fun r3=>
  ed (fS tl) e.Nodes r3

def kY(w1:aP)(p:da):Option aP:=
 (bY w1 ([(p.Frags.length:Int)])).bind fun r=>
 fS p.Frags r

def kN:List am->(List Int)->Option ((List Int)×Int)
  |[],b1=>
    some (b1,(0:Int))
  |e::tl,b1=>
    (q5 e).bind fun r=>
    if(r.2 !=(0:Int))then
    (some (([]:List Int),r.2))
    else
    ((jh b1 r.1).bind fun b3=>
    (kN tl) b3)

def vb(b:(List Int))(l1:(List am)):Option ((List Int)×Int):=
 kN l1 b

def xh(r:(List am)):Option ((List Int)×Int):=
  if(decide ((16:Int)<(r.length:Int)))then
  (some ([],(3:Int)))
  else
  ((vb ([(IntKind.u8.wrap (r.length:Int))]) r).bind fun r1=>
  some (r1.1,r1.2))

def oK(b:List Int)(at1:Int)(e:Int):Option ((List Int)×Int×Int):=
 if(e !=(0:Int))then
 (some ([],at1,e))
 else
 (some (b,(0:Int),(0:Int)))

def mU:List (List am)->Nat->(List Int)->Int->Int->Option ((List Int)×Int×Int)
  |[],i,b1,at2,e1=>
    oK b1 at2 e1
  |e2::tl,i,b1,at2,e1=>
    (xh e2).bind fun r1=>
    if(r1.2 !=(0:Int))then
    (oK b1 (i:Int) r1.2)
    else
    ((jh b1 r1.1).bind fun b2=>
    (mU tl) (i+1) b2 at2 r1.2)

def vc(l:(List (List am))):Option ((List Int)×Int×Int):=
  if(decide ((400:Int)<(l.length:Int)))then
  (some ([],(0:Int),(3:Int)))
  else
  ((pi ([]) (IntKind.u16.wrap (l.length:Int))).bind fun r=>
  mU l 0 r (0:Int) (0:Int))

def lC(w1:aP)(p:aO):Option aP:=
  (mj w1.bytes p.Session).bind fun r=>
  (jr r p.Seq).bind fun r1=>
  if(p.Kind==(2:Int))then
  ((jr r1 p.Limit).bind fun r2=>
  some ({({w1 with bytes:=r1}:aP)with bytes:=r2}:aP))
  else
  ((gj ({w1 with bytes:=r1}:aP) p.Batch.End).bind fun r3=>
  if p.Batch.End then
  ((jr r3.bytes p.Batch.Count).bind fun r4=>
  some ({r3 with bytes:=r4}:aP))
  else
  ((vc p.Batch.Rows).bind fun r5=>
  (jh r3.bytes r5.1).bind fun l=>
  some ({r3 with bytes:=l}:aP)))

def jA(m:ci)(r:aP)(x:Bool):Option aP:=
  if x then
  ((bY r ([m.Frag])).bind fun r3=>
  (lC r3 m.Packet).bind fun r4=>
  some r4)
  else
  (if(m.Kind==(5:Int))then
  ((gj r (m.Err==(300:Int))).bind fun r5=>
  some r5)
  else
  (some r))

def gY(w1:aP)(m:ci):Option aP:=
  (bY w1 ([m.Kind,m.From,m.To,m.Epoch])).bind fun r=>
  if(m.Kind==(1:Int))then
  ((bY r ([m.Sites])).bind fun r1=>
  (kY r1 m.Plan).bind fun r2=>
  some r2)
  else
  (if(m.Kind==(3:Int))then
  (jA m r (m.Kind==(3:Int)))
  else
  (jA m r (m.Kind==(4:Int))))

def oc(m:ci):Option ((List Int)×Int):=
  (ml m).bind fun r=>
  if(!r)then
  (some ([],(330:Int)))
  else
  ((gY (⟨[]⟩:aP) m).bind fun r1=>
  (mq r1.bytes).bind fun r2=>
  if(decide ((20000:Int)<(r2.length:Int)))then
  (some ([],(330:Int)))
  else
  (some (r2,(0:Int))))

def lc(a1:(List Int))(b:(List Int)):Option Bool:=
 some ((lu a1)==(lu b))

def wn:Option Bool:=
  (oc (⟨(2:Int),(2:Int),(0:Int),(3:Int),(0:Int),(0:Int),(⟨[]⟩:da),(⟨(0:Int),(0:Int),(0:Int),(0:Int),(⟨[],false,(0:Int)⟩:bH)⟩:aO),(0:Int)⟩:ci)).bind fun r=>
  (if((r.2==(0:Int))&&((r.1.length:Int)==(8:Int)))then((dK r.1 0 (4:Int)).bind fun y=>
  (lc y ([(2:Int),(2:Int),(0:Int),(3:Int)])).bind fun r1=>
  some r1)else some false).bind fun t=>
  some t

def ny(v:am):Option Bool:=
  if(v.Kind==(0:Int))then
  (some (decide (v=(⟨(0:Int),(0:Int),(0:Int),[]⟩:am))))
  else
  (if(v.Kind==(1:Int))then
  (some (((v.U==(0:Int))&&(v.S==([])))&&((v.N==(0:Int))||(v.N==(1:Int)))))
  else
  (if(v.Kind==(2:Int))then
  (some ((v.U==(0:Int))&&(v.S==([]))))
  else
  (if(v.Kind==(3:Int))then
  (some (((v.N==(0:Int))&&(v.U==(0:Int)))&&(decide ((v.S.length:Int)<=(40:Int)))))
  else
  (some ((v.Kind==(4:Int))&&(v.S==([])))))))

def km(x1:Bool):Option Int:=
 if x1 then
 (some (1:Int))
 else
 (some (-1:Int))

def pK(op:Int)(x:Bool):Option Int:=
  if x then
  (some (2:Int))
  else
  (if(op==(3:Int))then
  (km (op==(3:Int)))
  else
  (if(op==(4:Int))then
  (km (op==(4:Int)))
  else
  (if(op==(5:Int))then
  (km (op==(5:Int)))
  else
  (if(op==(6:Int))then
  (km (op==(6:Int)))
  else
  (km (op==(8:Int)))))))

def qV(op:Int):Option Int:=
  if(op==(1:Int))then
  (some (0:Int))
  else
  (if(op==(2:Int))then
  (pK op (op==(2:Int)))
  else
  (pK op (op==(7:Int))))

def sf(op:Int)(x:Bool):Option Int:=
  if x then
  (some (1:Int))
  else
  ((qV op).bind fun r=>
  some r)

def vX(op:Int):Option Int:=
  if(op==(9:Int))then
  (some (0:Int))
  else
  (if(op==(10:Int))then
  (sf op (op==(10:Int)))
  else
  (sf op (op==(11:Int))))

def f7:Nat->(List aa)->Int->Option Int
  |0,_,_=>none
  |fu+1,l,at1=>
    if((decide (at1<(0:Int)))||(decide ((l.length:Int)<=at1)))then
    (some (0:Int))
    else
    ((gG l at1).bind fun e=>
    (vX e.Op).bind fun r=>
    if(r==(0:Int))then
    (if((e.A==(-1:Int))&&(e.B==(-1:Int)))then
    (some (1:Int))
    else
    (some (0:Int)))
    else
    (if(r==(1:Int))then
    (((f7 fu) l (IntKind.i64.wrap (at1-(1:Int)))).bind fun r1=>
    if(((e.A==(IntKind.i64.wrap (at1-(1:Int))))&&(e.B==(-1:Int)))&&(decide ((0:Int)<r1)))then
    (some (IntKind.i64.wrap (r1+(1:Int))))
    else
    (some (0:Int)))
    else
    (if(r==(2:Int))then
    (((f7 fu) l (IntKind.i64.wrap (at1-(1:Int)))).bind fun r2=>
    if(((r2==(0:Int))||(e.B !=(IntKind.i64.wrap (at1-(1:Int)))))||(e.A !=(IntKind.i64.wrap ((IntKind.i64.wrap (at1-(1:Int)))-r2))))then
    (some (0:Int))
    else
    (((f7 fu) l e.A).bind fun r3=>
    if(decide ((0:Int)<r3))then
    (some (IntKind.i64.wrap ((IntKind.i64.wrap (r3+r2))+(1:Int))))
    else
    (some (0:Int))))
    else
    (some (0:Int)))))

def uK(l:(List aa))(at1:Int):Option Int:=
 f7 eQ l at1

def pc(n:aa):Option Bool:=
  if((n.Op !=(1:Int))&&((n.Table !=(0:Int))||(decide ((0:Int)<(n.Kinds.length:Int)))))then
  (some false)
  else
  (if(((n.Op !=(2:Int))&&n.Left)||(((n.Op !=(2:Int))&&(n.Op !=(3:Int)))&&(decide ((0:Int)<(n.Cond.Nodes.length:Int)))))then
  (some false)
  else
  (if(((n.Op !=(4:Int))&&((decide ((0:Int)<(n.Keys.length:Int)))||(decide ((0:Int)<(n.Aggs.length:Int)))))||((n.Op !=(5:Int))&&(decide ((0:Int)<(n.Items.length:Int)))))then
  (some false)
  else
  (some ((n.Op==(8:Int))||(((n.Order.length:Int)==(0:Int))&&(n.Limit==(0:Int)))))))

def nW(n:aa)(x:Bool):Option Bool:=
  if x then
  ((pc (aa.mk (4:Int) n.A n.B n.Table n.Kinds n.Left n.Cond n.Keys n.Aggs n.Items n.Order n.Limit)).bind fun r1=>
  some r1)
  else
  ((pc n).bind fun r2=>
  some r2)

def o9(n:aa):Option Bool:=
  if(n.Op==(9:Int))then
  ((pc (aa.mk (1:Int) n.A n.B n.Table n.Kinds n.Left n.Cond n.Keys n.Aggs n.Items n.Order n.Limit)).bind fun r=>
  some r)
  else
  (if(n.Op==(10:Int))then
  (nW n (n.Op==(10:Int)))
  else
  (nW n (n.Op==(11:Int))))

def nu(n:aa):List Int->Bool->Option ((List Int)×Bool)
 |[],ok=>
  some (n.Kinds,ok)
 |e::tl,ok=>
  (nu n tl) ((ok&&(decide ((0:Int)<=e)))&&(decide (e<=(4:Int))))

def vW(n:aa):Option ((List Int)×Bool):=
 nu n n.Kinds ((((decide ((0:Int)<=n.Table))&&(decide (n.Table<(30:Int))))&&(decide ((1:Int)<=(n.Kinds.length:Int))))&&(decide ((n.Kinds.length:Int)<=(16:Int))))

def tF:List Int->Option Bool
 |[]=>
  some false
 |e::tl=>
  if(e==(4:Int))then
  (some true)
  else
  ((tF tl))

def yh(kinds:(List Int)):Option Bool:=
 tF kinds

def xF(nx1:aR->Option aR)(out1:aR)(n1:ap):Option aR:=
 (jh out1.Nodes ([n1])).bind fun l5=>
 nx1 ({out1 with Nodes:=l5}:aR)

def xG(out:aR)(nx1:aR->Option aR)(out1:aR)(n:ap):Option aR:=
 if(decide ((0:Int)<=n.R))then
 (xF nx1 out1 (ap.mk n.Tag n.L (IntKind.i64.wrap (n.R+(out.Nodes.length:Int))) n.Col n.Value))
 else
 (xF nx1 out1 n)

def tG(nx:Nat->ap->aR->Option aR)(i:Nat)(root1:ap)(out:aR):List ap->aR->Option aR
 |[],out1=>
  if((i:Int)==(0:Int))then
  (nx (i+1) (ap.mk root1.Tag (IntKind.i64.wrap ((out1.Nodes.length:Int)-(1:Int))) root1.R root1.Col root1.Value) out1)
  else
  (nx (i+1) (ap.mk root1.Tag root1.L (IntKind.i64.wrap ((out1.Nodes.length:Int)-(1:Int))) root1.Col root1.Value) out1)
 |e1::tl1,out1=>
  if(decide ((0:Int)<=e1.L))then
  (xG out (tG nx i root1 out tl1) out1 (ap.mk e1.Tag (IntKind.i64.wrap (e1.L+(out.Nodes.length:Int))) e1.R e1.Col e1.Value))
  else
  (xG out (tG nx i root1 out tl1) out1 e1)

def tH:List aR->Nat->ap->aR->Option aR
 |[],i,root1,out=>
  (jh out.Nodes ([root1])).bind fun l2=>
  some ({out with Nodes:=l2}:aR)
 |e::tl,i,root1,out=>
  tG (tH tl) i root1 out e.Nodes out

def yj(root:ap)(l:(List aR)):Option aR:=
 tH l 0 (ap.mk root.Tag (-1:Int) (-1:Int) root.Col root.Value) ({(⟨[]⟩:aR)with Nodes:=([]:List ap)}:aR)

def dy:Nat->gO->Int->Option Int
  |0,_,_=>none
  |fu+1,l,at1=>
    if((decide (at1<(0:Int)))||(decide ((l.Nodes.length:Int)<=at1)))then
    (some (0:Int))
    else
    ((gG l.Nodes at1).bind fun e=>
    (qV e.Op).bind fun r=>
    if(r==(0:Int))then
    (if((e.A==(-1:Int))&&(e.B==(-1:Int)))then
    (some (1:Int))
    else
    (some (0:Int)))
    else
    (if(r==(1:Int))then
    (if((e.A==(IntKind.i64.wrap (at1-(1:Int))))&&(e.B==(-1:Int)))then
    (((dy fu) l e.A).bind fun r1=>
    if(decide ((0:Int)<r1))then
    (some (IntKind.i64.wrap (r1+(1:Int))))
    else
    (some (0:Int)))
    else
    (some (0:Int)))
    else
    (if(r==(2:Int))then
    (if(e.B==(IntKind.i64.wrap (at1-(1:Int))))then
    (((dy fu) l e.B).bind fun r2=>
    if((decide ((0:Int)<r2))&&(e.A==(IntKind.i64.wrap (e.B-r2))))then
    (((dy fu) l e.A).bind fun r3=>
    if(decide ((0:Int)<r3))then
    (some (IntKind.i64.wrap ((IntKind.i64.wrap (r3+r2))+(1:Int))))
    else
    (some (0:Int)))
    else
    (some (0:Int)))
    else
    (some (0:Int)))
    else
    (some (0:Int)))))

def CM(l:gO)(at1:Int):Option Int:=
 dy eQ l at1

def A9(tag:Int):Option Int:=
  if((decide (tag<(1:Int)))||(decide ((23:Int)<tag)))then
  (some (-1:Int))
  else
  (if(decide (tag<=(3:Int)))then
  (some (0:Int))
  else
  (if(decide (tag<=(11:Int)))then
  (some (1:Int))
  else
  (some (2:Int))))

def wa(tag:Int):Option Int:=
  if((tag==(3:Int))||((decide ((8:Int)<=tag))&&(decide (tag<=(11:Int)))))then
  (some (-1:Int))
  else
  ((A9 tag).bind fun r=>
  some r)

def wb(v:am):Option Bool:=
 (ny v).bind fun r=>
 some (r&&(v.Kind !=(4:Int)))

def kW(n:ap):Option Bool:=
  if(n.Tag==(1:Int))then
  ((wb n.Value).bind fun r=>
  some (r&&(n.Col==(0:Int))))
  else
  (if(n.Tag==(2:Int))then
  (some (((decide (n.Value=(⟨(0:Int),(0:Int),(0:Int),[]⟩:am)))&&(decide ((0:Int)<=n.Col)))&&(decide (n.Col<(16:Int)))))
  else
  (some ((decide (n.Value=(⟨(0:Int),(0:Int),(0:Int),[]⟩:am)))&&(n.Col==(0:Int)))))

def jb:Nat->aR->Int->Option Int
  |0,_,_=>none
  |fu+1,e,place=>
    if((decide (place<(0:Int)))||(decide ((e.Nodes.length:Int)<=place)))then
    (some (0:Int))
    else
    ((gG e.Nodes place).bind fun e1=>
    (wa e1.Tag).bind fun r=>
    (if(!(decide (r<(0:Int))))then((kW e1).bind fun r1=>
    some (!r1))else some true).bind fun t=>
    if t then
    (some (0:Int))
    else
    (if(r==(0:Int))then
    (if((e1.L !=(-1:Int))||(e1.R !=(-1:Int)))then
    (some (0:Int))
    else
    (some (1:Int)))
    else
    (((jb fu) e (IntKind.i64.wrap (place-(1:Int)))).bind fun r2=>
    if(r2==(0:Int))then
    (some (0:Int))
    else
    (if(r==(1:Int))then
    (if((e1.L !=(IntKind.i64.wrap (place-(1:Int))))||(e1.R !=(-1:Int)))then
    (some (0:Int))
    else
    (some (IntKind.i64.wrap (r2+(1:Int)))))
    else
    (((jb fu) e (IntKind.i64.wrap ((IntKind.i64.wrap (place-(1:Int)))-r2))).bind fun r3=>
    if(((r3==(0:Int))||(e1.R !=(IntKind.i64.wrap (place-(1:Int)))))||(e1.L !=(IntKind.i64.wrap ((IntKind.i64.wrap (place-(1:Int)))-r2))))then
    (some (0:Int))
    else
    (some (IntKind.i64.wrap ((IntKind.i64.wrap (r3+r2))+(1:Int)))))))))

def CO(e:aR)(place:Int):Option Int:=
 jb eQ e place

def v8(e:aR):Option Bool:=
  (if((decide ((1:Int)<=(e.Nodes.length:Int)))&&(decide ((e.Nodes.length:Int)<=(1000:Int))))then((CO e (IntKind.i64.wrap ((e.Nodes.length:Int)-(1:Int)))).bind fun r=>
  some (r==(e.Nodes.length:Int)))else some false).bind fun t=>
  some t

def qj(k:Int)(want:Int):Option Bool:=
 some ((k==want)||(k==(0:Int)))

def sh(tag:Int)(l:Int)(r:Int):Option (Int×Bool):=
  if((tag==(4:Int))||((decide ((12:Int)<=tag))&&(decide (tag<=(15:Int)))))then
  ((qj l (2:Int)).bind fun r1=>
  (if r1 then((qj r (2:Int)).bind fun r2=>
  some r2)else some false).bind fun t=>
  some ((2:Int),t))
  else
  (if((tag==(5:Int))||(decide ((22:Int)<=tag)))then
  ((qj l (1:Int)).bind fun r3=>
  (if r3 then((qj r (1:Int)).bind fun r4=>
  some r4)else some false).bind fun t1=>
  some ((1:Int),t1))
  else
  (if((tag==(6:Int))||(tag==(7:Int)))then
  (some ((1:Int),true))
  else
  (some ((1:Int),(((l==r)||(l==(0:Int)))||(r==(0:Int)))))))

def qG(nx2:(List Int)->Option (Int×Int))(e3:ap)(own:List Int)(e6:Int)(r1:Int):Option (Int×Int):=
  (sh e3.Tag e6 r1).bind fun r2=>
  if(!r2.2)then
  (some ((0:Int),(201:Int)))
  else
  ((jh own ([r2.1])).bind fun own3=>
  nx2 own3)

def dz(kinds:(List Int)):List ap->(List Int)->Option (Int×Int)
  |[],own=>
    (gG own (IntKind.i64.wrap ((own.length:Int)-(1:Int)))).bind fun e4=>
    some (e4,(0:Int))
  |e3::tl2,own=>
    if(e3.Tag==(1:Int))then
    ((jh own ([e3.Value.Kind])).bind fun own1=>
    (dz kinds tl2) own1)
    else
    (if(e3.Tag==(2:Int))then
    ((gG kinds e3.Col).bind fun e5=>
    (jh own ([e5])).bind fun own2=>
    (dz kinds tl2) own2)
    else
    ((gG own e3.L).bind fun e6=>
    if(decide ((0:Int)<=e3.R))then
    ((gG own e3.R).bind fun e7=>
    qG (dz kinds tl2) e3 own e6 e7)
    else
    (qG (dz kinds tl2) e3 own e6 (0:Int))))

def oG(e:aR)(kinds:(List Int)):List ap->Option (Int×Int)
 |[]=>
  dz kinds e.Nodes ([]:List Int)
 |e2::tl1=>
  if((e2.Tag==(2:Int))&&(decide ((kinds.length:Int)<=e2.Col)))then
  (some ((0:Int),(2:Int)))
  else
  ((oG e kinds tl1))

def qF(e:aR)(kinds:(List Int)):List Int->Option (Int×Int)
 |[]=>
  oG e kinds e.Nodes
 |e1::tl=>
  if((decide (e1<(0:Int)))||(decide ((3:Int)<e1)))then
  (some ((0:Int),(2:Int)))
  else
  ((qF e kinds tl))

def si(e:aR)(kinds:(List Int)):Option (Int×Int):=
 (v8 e).bind fun r=>
 if(!r)then
 (some ((0:Int),(200:Int)))
 else
 (qF e kinds kinds)

def sV(e:aR)(kinds:(List Int)):Option Bool:=
 (si e kinds).bind fun r=>
 some ((r.2==(0:Int))&&((r.1==(0:Int))||(r.1==(1:Int))))

def mD(a1:fI)(kinds:(List Int)):Option (Int×Bool):=
  if(a1.Tag==(1:Int))then
  (some ((2:Int),((a1.Arg.Nodes.length:Int)==(0:Int))))
  else
  ((si a1.Arg kinds).bind fun r=>
  if(((decide (a1.Tag<(1:Int)))||(decide ((5:Int)<a1.Tag)))||(r.2 !=(0:Int)))then
  (some ((0:Int),false))
  else
  (if(((a1.Tag==(3:Int))&&(r.1 !=(2:Int)))&&(r.1 !=(0:Int)))then
  (some ((0:Int),false))
  else
  (if(decide ((4:Int)<=a1.Tag))then
  (some (r.1,true))
  else
  (some ((2:Int),true)))))

def jo(n:aa):Nat->Bool->Int->Option ((List Int)×Bool)
  |0,_,_=>none
  |n1+1,ok,i=>
    if(decide (i<(n.Kinds.length:Int)))then
    ((if ok then((gG n.Kinds i).bind fun e=>
    some (decide ((1:Int)<=e)))else some false).bind fun t=>
    (if t then((gG n.Kinds i).bind fun e1=>
    some (decide (e1<=(3:Int))))else some false).bind fun t1=>
    (jo n n1) t1 (IntKind.i64.wrap (i+(1:Int))))
    else
    (some (n.Kinds,((((ok&&(decide ((0:Int)<=n.Table)))&&(decide (n.Table<=(3:Int))))&&(decide ((1:Int)<=(n.Kinds.length:Int))))&&(decide ((n.Kinds.length:Int)<=(4:Int))))))

def lO(n:aa)(a1:(List Int)):Nat->(List Int)->Bool->Int->Option ((List Int)×Bool)
  |0,_,_,_=>none
  |n3+1,out3,ok1,i2=>
    if(decide (i2<(n.Aggs.length:Int)))then
    ((gG n.Aggs i2).bind fun e4=>
    (mD e4 a1).bind fun r2=>
    (jh out3 ([r2.1])).bind fun out4=>
    (lO n a1 n3) out4 (ok1&&r2.2) (IntKind.i64.wrap (i2+(1:Int))))
    else
    (some (out3,(((ok1&&(decide ((n.Keys.length:Int)<=(3:Int))))&&(decide ((n.Aggs.length:Int)<=(12:Int))))&&(decide ((0:Int)<(out3.length:Int))))))

def lP(n:aa)(a1:(List Int)):Nat->(List Int)->Int->Option ((List Int)×Bool)
  |0,_,_=>none
  |n2+1,out1,i1=>
    if(decide (i1<(n.Keys.length:Int)))then
    ((gG n.Keys i1).bind fun e2=>
    if((decide (e2<(0:Int)))||(decide ((a1.length:Int)<=e2)))then
    (some ([],false))
    else
    ((gG a1 e2).bind fun e3=>
    (jh out1 ([e3])).bind fun out2=>
    (lP n a1 n2) out2 (IntKind.i64.wrap (i1+(1:Int)))))
    else
    (lO n a1 eQ out1 true (0:Int))

def lN(n:aa)(a1:(List Int)):Nat->(List Int)->Bool->Int->Option ((List Int)×Bool)
  |0,_,_,_=>none
  |n4+1,out5,ok2,i3=>
    if(decide (i3<(n.Items.length:Int)))then
    ((gG n.Items i3).bind fun e5=>
    (si e5 a1).bind fun r3=>
    (jh out5 ([r3.1])).bind fun out6=>
    (lN n a1 n4) out6 (ok2&&(r3.2==(0:Int))) (IntKind.i64.wrap (i3+(1:Int))))
    else
    (some (out5,((ok2&&(decide ((1:Int)<=(out5.length:Int))))&&(decide ((out5.length:Int)<=(16:Int))))))

def pJ(b:(List Int))(nx4:Nat->(List Int)->Bool->Option ((List Int)×Bool))(i4:Nat)(out7:List Int)(ok3:Bool)(k:Int):Option ((List Int)×Bool):=
  (jh out7 ([k])).bind fun out8=>
  (if ok3 then((gG b (i4:Int)).bind fun e7=>
  (if(!(e7==k))then((gG b (i4:Int)).bind fun e8=>
  some (e8==(0:Int)))else some true).bind fun t3=>
  some t3)else some false).bind fun t2=>
  nx4 (i4+1) out8 t2

def kj(b:(List Int)):List Int->Nat->(List Int)->Bool->Option ((List Int)×Bool)
  |[],i4,out7,ok3=>
    some (out7,ok3)
  |e6::tl,i4,out7,ok3=>
    if(e6==(0:Int))then
    ((gG b (i4:Int)).bind fun e9=>
    pJ b (kj b tl) i4 out7 ok3 e9)
    else
    (pJ b (kj b tl) i4 out7 ok3 e6)

def jn(n:aa)(a1:(List Int)):Nat->Bool->Int->Option ((List Int)×Bool)
  |0,_,_=>none
  |n5+1,ok4,i5=>
    if(decide (i5<(n.Order.length:Int)))then
    ((if ok4 then((gG n.Order i5).bind fun e10=>
    some (decide ((0:Int)<=e10.Col)))else some false).bind fun t4=>
    (if t4 then((gG n.Order i5).bind fun e11=>
    some (decide (e11.Col<(a1.length:Int))))else some false).bind fun t5=>
    (jn n a1 n5) t5 (IntKind.i64.wrap (i5+(1:Int))))
    else
    (some (a1,(((ok4&&(decide ((n.Order.length:Int)<=(3:Int))))&&(decide ((-1:Int)<=n.Limit)))&&(decide (n.Limit<=(2147483647:Int))))))

def cI(n:aa)(a1:(List Int))(b:(List Int)):Option ((List Int)×Bool):=
  if(n.Op==(1:Int))then
  (jo n eQ true (0:Int))
  else
  (if(n.Op==(2:Int))then
  ((jh ([]:List Int) a1).bind fun l=>
  (jh l b).bind fun out=>
  (sV n.Cond out).bind fun r=>
  some (out,r))
  else
  (if(n.Op==(3:Int))then
  ((sV n.Cond a1).bind fun r1=>
  some (a1,r1))
  else
  (if(n.Op==(4:Int))then
  (lP n a1 eQ ([]:List Int) (0:Int))
  else
  (if(n.Op==(5:Int))then
  (lN n a1 eQ ([]:List Int) true (0:Int))
  else
  (if(n.Op==(6:Int))then
  (some (a1,true))
  else
  (if(n.Op==(7:Int))then
  (if((a1.length:Int) !=(b.length:Int))then
  (some ([],false))
  else
  (kj b a1 0 ([]:List Int) true))
  else
  (jn n a1 eQ true (0:Int))))))))

def ko(l:gO)(at1:Int)(e1:aa)(a1:(List Int))(b1:(List Int)):Option ((List Int)×Bool):=
 (cI e1 a1 b1).bind fun r2=>
 if(((e1.Op==(8:Int))&&(at1 !=(IntKind.i64.wrap ((l.Nodes.length:Int)-(1:Int)))))||(decide ((16:Int)<(r2.1.length:Int))))then
 (some ([],false))
 else
 (some (r2.1,r2.2))

def lQ(self__:gO->Int->Option ((List Int)×Bool))(l:gO)(at1:Int)(e1:aa)(a1:(List Int)):Option ((List Int)×Bool):=
  if(decide ((0:Int)<=e1.B))then
  ((self__ l e1.B).bind fun r3=>
  if(!r3.2)then
  (some ([],false))
  else
  (ko l at1 e1 a1 r3.1))
  else
  (ko l at1 e1 a1 ([]))

def gw:Nat->gO->Int->Option ((List Int)×Bool)
  |0,_,_=>none
  |fu+1,l,at1=>
    (CM l at1).bind fun r=>
    (if(!(r==(0:Int)))then((gG l.Nodes at1).bind fun e=>
    (pc e).bind fun r1=>
    some (!r1))else some true).bind fun t=>
    if t then
    (some ([],false))
    else
    ((gG l.Nodes at1).bind fun e1=>
    if(decide ((0:Int)<=e1.A))then
    (((gw fu) l e1.A).bind fun r4=>
    if(!r4.2)then
    (some ([],false))
    else
    (lQ (gw fu) l at1 e1 r4.1))
    else
    (lQ (gw fu) l at1 e1 ([])))

def nw(l:gO)(at1:Int):Option ((List Int)×Bool):=
 gw eQ l at1

def m4(nx1:aa->Option ((List Int)×Bool))(p:aa)(e2:ap):Option ((List Int)×Bool):=
 (yj e2 ([])).bind fun r2=>
 (jh p.Items ([r2])).bind fun l7=>
 nx1 ({p with Items:=l7}:aa)

def dL(nx:Nat->aa->gO->Option ((List Int)×Bool))(i:Nat)(n1:aa)(l:gO):List Int->aa->Option ((List Int)×Bool)
 |[],p=>
  (jh l.Nodes ([(⟨(1:Int),(-1:Int),(-1:Int),(0:Int),[(1:Int),(2:Int),(3:Int)],false,(⟨[]⟩:aR),[],[],[],[],(0:Int)⟩:aa),p])).bind fun l5=>
  if((i:Int)==(0:Int))then
  (nx (i+1) (aa.mk n1.Op (IntKind.i64.wrap ((l5.length:Int)-(1:Int))) n1.B n1.Table n1.Kinds n1.Left n1.Cond n1.Keys n1.Aggs n1.Items n1.Order n1.Limit) ({l with Nodes:=l5}:gO))
  else
  (nx (i+1) (aa.mk n1.Op n1.A (IntKind.i64.wrap ((l5.length:Int)-(1:Int))) n1.Table n1.Kinds n1.Left n1.Cond n1.Keys n1.Aggs n1.Items n1.Order n1.Limit) ({l with Nodes:=l5}:gO))
 |e1::tl1,p=>
  if(decide ((0:Int)<e1))then
  (m4 (dL nx i n1 l tl1) p (⟨(2:Int),(0:Int),(0:Int),(IntKind.i64.wrap (e1-(1:Int))),(⟨(0:Int),(0:Int),(0:Int),[]⟩:am)⟩:ap))
  else
  (m4 (dL nx i n1 l tl1) p (⟨(1:Int),(0:Int),(0:Int),(0:Int),(⟨(0:Int),(0:Int),(0:Int),[]⟩:am)⟩:ap))

def bS:List (List Int)->Nat->aa->gO->Option ((List Int)×Bool)
 |[],i,n1,l=>
  (jh l.Nodes ([n1])).bind fun l2=>
  (nw ({l with Nodes:=l2}:gO) (IntKind.i64.wrap ((l2.length:Int)-(1:Int)))).bind fun r=>
  some (r.1,r.2)
 |e::tl,i,n1,l=>
  (yh e).bind fun r1=>
  if r1 then
  (some ([],false))
  else
  (dL (bS tl) i n1 l e ({(⟨(5:Int),(l.Nodes.length:Int),(-1:Int),(0:Int),[],false,(⟨[]⟩:aR),[],[],[],[],(0:Int)⟩:aa)with Items:=([]:List aR)}:aa))

def dv(n:aa)(parts:(List (List Int))):Option ((List Int)×Bool):=
 bS parts 0 n ({(⟨[]⟩:gO)with Nodes:=([]:List aa)}:gO)

def lM(n:aa):List fI->Nat->(List Int)->Option (List Int)
  |[],i,out1=>
    some out1
  |e::tl,i,out1=>
    if(e.Tag==(3:Int))then
    ((gG out1 (IntKind.i64.wrap ((n.Keys.length:Int)+(i:Int)))).bind fun e1=>
    (some (out1.set (IntKind.i64.wrap ((n.Keys.length:Int)+(i:Int))).toNat (4:Int))).bind fun st=>
    (lM n tl) (i+1) st)
    else
    ((lM n tl) (i+1) out1)

def oF(n:aa)(kinds:(List Int)):Option (List Int):=
 (jh ([]:List Int) kinds).bind fun out=>
 lM n n.Aggs 0 out

def pG(nx1:Nat->(List Int)->Option ((List Int)×Bool))(i1:Nat)(out1:List Int)(e2:Int)(x1:Bool):Option ((List Int)×Bool):=
  if x1 then
  (if(e2==(4:Int))then
  (some ([],false))
  else
  ((jh out1 ([e2])).bind fun out4=>
  nx1 (i1+1) out4))
  else
  (some ([],false))

def pH(nx1:Nat->(List Int)->Option ((List Int)×Bool))(i1:Nat)(e1:fI)(out1:List Int)(e2:Int)(x:Bool):Option ((List Int)×Bool):=
  if x then
  (if(e2 !=(2:Int))then
  (some ([],false))
  else
  ((jh out1 ([e2])).bind fun out2=>
  nx1 (i1+1) out2))
  else
  (if(e1.Tag==(3:Int))then
  (if(e2 !=(4:Int))then
  (some ([],false))
  else
  ((jh out1 ([(2:Int)])).bind fun out3=>
  nx1 (i1+1) out3))
  else
  (if(e1.Tag==(4:Int))then
  (pG nx1 i1 out1 e2 (e1.Tag==(4:Int)))
  else
  (pG nx1 i1 out1 e2 (e1.Tag==(5:Int)))))

def gu(n:aa)(a1:(List Int)):List fI->Nat->(List Int)->Option ((List Int)×Bool)
  |[],i1,out1=>
    some (out1,true)
  |e1::tl1,i1,out1=>
    (gG a1 (IntKind.i64.wrap ((n.Keys.length:Int)+(i1:Int)))).bind fun e2=>
    if(decide ((0:Int)<(e1.Arg.Nodes.length:Int)))then
    (some ([],false))
    else
    (if(e1.Tag==(1:Int))then
    (pH (gu n a1 tl1) i1 e1 out1 e2 (e1.Tag==(1:Int)))
    else
    (pH (gu n a1 tl1) i1 e1 out1 e2 (e1.Tag==(2:Int))))

def nv(n:aa)(a1:(List Int)):List Int->Nat->(List Int)->Option ((List Int)×Bool)
  |[],i,out=>
    gu n a1 n.Aggs 0 out
  |e::tl,i,out=>
    (if(!(e !=(i:Int)))then((gG a1 (i:Int)).bind fun e3=>
    some (e3==(4:Int)))else some true).bind fun t=>
    if t then
    (some ([],false))
    else
    ((gG a1 (i:Int)).bind fun e4=>
    (jh out ([e4])).bind fun out5=>
    (nv n a1 tl) (i+1) out5)

def pb(n:aa)(a1:(List Int)):Option ((List Int)×Bool):=
 if((((decide ((3:Int)<(n.Keys.length:Int)))||(decide ((12:Int)<(n.Aggs.length:Int))))||((IntKind.i64.wrap ((n.Keys.length:Int)+(n.Aggs.length:Int))) !=(a1.length:Int)))||((a1.length:Int)==(0:Int)))then
 (some ([],false))
 else
 (nv n a1 n.Keys 0 ([]:List Int))

def dh(l:(List aa))(nx:Nat->(List (List Int))->Option ((List (List Int))×Int))(i:Nat)(e:aa)(out:List (List Int))(ok:Bool)(k:(List Int)):Option ((List (List Int))×Int):=
  if((!ok)||(((e.Op==(8:Int))||(e.Op==(10:Int)))&&((i:Int) !=(IntKind.i64.wrap ((l.length:Int)-(1:Int))))))then
  (some ([],(i:Int)))
  else
  ((jh out ([k])).bind fun out1=>
  nx (i+1) out1)

def dO(l:(List aa))(nx:Nat->(List (List Int))->Option ((List (List Int))×Int))(i:Nat)(e:aa)(out:List (List Int))(parts1:List (List Int)):Option ((List (List Int))×Int):=
  if(e.Op==(9:Int))then
  ((vW e).bind fun r3=>
  dh l nx i e out r3.2 r3.1)
  else
  (if(e.Op==(10:Int))then
  ((dv (aa.mk (4:Int) e.A e.B e.Table e.Kinds e.Left e.Cond e.Keys e.Aggs e.Items e.Order e.Limit) parts1).bind fun r4=>
  if r4.2 then
  ((oF e r4.1).bind fun r5=>
  dh l nx i e out r4.2 r5)
  else
  (dh l nx i e out r4.2 r4.1))
  else
  (if(e.Op==(11:Int))then
  ((gG parts1 (0:Int)).bind fun e1=>
  (pb e e1).bind fun r6=>
  (if r6.2 then((gG l e.A).bind fun e2=>
  some (e2.Op==(9:Int)))else some false).bind fun t1=>
  dh l nx i e out t1 r6.1)
  else
  (if(e.Op==(1:Int))then
  ((dv e ([])).bind fun r7=>
  dh l nx i e out r7.2 r7.1)
  else
  ((dv e parts1).bind fun r8=>
  dh l nx i e out r8.2 r8.1))))

def pI(l:(List aa))(nx:Nat->(List (List Int))->Option ((List (List Int))×Int))(i:Nat)(e:aa)(out:List (List Int))(parts:List (List Int)):Option ((List (List Int))×Int):=
  if(decide ((0:Int)<=e.B))then
  ((gG out e.B).bind fun e3=>
  (jh parts ([e3])).bind fun parts2=>
  dO l nx i e out parts2)
  else
  (dO l nx i e out parts)

def c7(l:(List aa)):List aa->Nat->(List (List Int))->Option ((List (List Int))×Int)
  |[],i,out=>
    (uK l (IntKind.i64.wrap ((l.length:Int)-(1:Int)))).bind fun r=>
    if(r !=(l.length:Int))then
    (some ([],(IntKind.i64.wrap ((l.length:Int)-(1:Int)))))
    else
    (some (out,(-1:Int)))
  |e::tl,i,out=>
    (uK l (i:Int)).bind fun r1=>
    (if(decide ((0:Int)<r1))then((o9 e).bind fun r2=>
    some r2)else some false).bind fun t=>
    if t then
    (if(decide ((0:Int)<=e.A))then
    ((gG out e.A).bind fun e4=>
    (jh ([]:List (List Int)) ([e4])).bind fun parts3=>
    pI l (c7 l tl) i e out parts3)
    else
    (pI l (c7 l tl) i e out ([]:List (List Int))))
    else
    (dh l (c7 l tl) i e out t ([]))

def vY(l:(List aa)):Option ((List (List Int))×Int):=
 if((decide ((l.length:Int)<(1:Int)))||(decide ((60:Int)<(l.length:Int))))then
 (some ([],(0:Int)))
 else
 (c7 l l 0 ([]:List (List Int)))

def sk(b:(List Int)):Option ae:=
 (uD (b.length:Int) (0:Int)).bind fun mk=>
 (some (ol mk b)).bind fun cp=>
 some ({(⟨(⟨(0:Int),(0:Int)⟩:lq),mk⟩:ae)with own:=cp}:ae)

def uS(b:(List Int)):Option (aJ×ae):=
 (sk b).bind fun r=>
 some ((⟨(⟨(⟨(0:Int),(0:Int)⟩:lq),[]⟩:ae),b,false⟩:aJ),r)

def qb(x:Int)(c:Int):Option Int:=
 some (IntKind.u64.wrap ((IntKind.u64.wrap (x*2^(min (Int.toNat (8:Int)) IntKind.u64.bits)))+(IntKind.u64.wrap c)))

def fC(r:ae):Option Int:=
 if false then
 (some (0:Int))
 else
 (some (IntKind.i64.wrap ((r.own.length:Int)-r.place.at_)))

def ff(n:Int):Nat->Int->Int->ae->Option (ae×Int)
  |0,_,_,_=>none
  |n1+1,x1,x2,ob=>
    if(decide (x1<n))then
    ((gG ob.own ob.place.at_).bind fun e=>
    (qb x2 e).bind fun r2=>
    (ff n n1) (IntKind.i64.wrap (x1+(1:Int))) r2 ({ob with place:=({ob.place with at_:=(IntKind.i64.wrap (ob.place.at_+(1:Int)))}:lq)}:ae))
    else
    (some (ob,x2))

def m1(r:ae)(n:Int)(x:Int):Option (ae×Int):=
  if(r.place.why !=(0:Int))then
  (some (r,x))
  else
  (if(decide (n<(0:Int)))then
  (some (({r with place:=({r.place with why:=(2:Int)}:lq)}:ae),x))
  else
  ((fC r).bind fun r1=>
  if(decide (r1<n))then
  (some (({r with place:=({r.place with why:=(7:Int)}:lq)}:ae),x))
  else
  (ff n eQ (0:Int) x r)))

def cd(r:ae)(n:Int):Option (Int×ae):=
 (m1 r n (0:Int)).bind fun r1=>
 some (r1.2,r1.1)

def cb(r:ae):Option (Int×ae):=
 (cd r (1:Int)).bind fun r1=>
 some ((IntKind.u8.wrap r1.1),r1.2)

def aM(r:aJ)(in1:ae):Option (Int×ae):=
 (cb in1).bind fun r1=>
 some ((IntKind.i64.wrap r1.1),r1.2)

def fg(r:ae):Option Int:=
 if false then
 (some (1:Int))
 else
 (some r.place.why)

def cV(r:aJ)(in1:ae):Option Bool:=
  if(!r.bad)then
  ((fg in1).bind fun r1=>
  some (r1==(0:Int)))
  else
  (some false)

def nE(out:List Int)(ob:ae):Option ((List Int)×ae):=
 some (out,ob)

def g9(r:aJ)(n:Int):Nat->(List Int)->Int->ae->Option ((List Int)×ae)
  |0,_,_,_=>none
  |n1+1,out1,x,ob1=>
    if(decide (x<n))then
    ((cV r ob1).bind fun r1=>
    if(!r1)then
    (nE out1 ob1)
    else
    ((aM r ob1).bind fun r2=>
    (jh out1 ([r2.1])).bind fun out2=>
    (g9 r n n1) out2 (IntKind.i64.wrap (x+(1:Int))) r2.2))
    else
    (nE out1 ob1)

def k9(r:aJ)(in1:ae)(n:Int):Option ((List Int)×ae):=
 g9 r n eQ ([]:List Int) (0:Int) in1

def gZ(r:aJ)(in1:ae):Option ((List Int)×ae):=
 (aM r in1).bind fun r1=>
 (k9 r r1.2 r1.1).bind fun r2=>
 some (r2.1,r2.2)

def eN(r:aJ)(in1:ae):Option (Bool×aJ×ae):=
 (cb in1).bind fun r1=>
 some ((r1.1==(1:Int)),({r with bad:=(r.bad||(decide ((1:Int)<r1.1)))}:aJ),r1.2)

def ka(r:ae):Option (Int×ae):=
 (cd r (4:Int)).bind fun r1=>
 some ((IntKind.u32.wrap r1.1),r1.2)

def gW(r:ae):Option (Int×ae):=
 (cd r (2:Int)).bind fun r1=>
 some ((IntKind.u16.wrap r1.1),r1.2)

def mH(t:(List Int)):Option (Int×(List Int)):=
  if((t.length:Int)==(0:Int))then
  (some ((-1:Int),t))
  else
  ((gG t (IntKind.i64.wrap ((t.length:Int)-(1:Int)))).bind fun e=>
  (dK t 0 (IntKind.i64.wrap ((t.length:Int)-(1:Int)))).bind fun y=>
  some (e,y))

def iL(at1:Int)(b3:Int)(a1:Int)(x1:List Int)(ob1:aJ):Option (Int×Int×aJ×(List Int)):=
 (jh x1 ([at1])).bind fun l3=>
 some (a1,b3,ob1,l3)

def kC(n:Int)(at1:Int)(b3:Int)(x:List Int)(ob:aJ):Option (Int×Int×aJ×(List Int)):=
  if(decide ((1:Int)<=n))then
  ((mH x).bind fun r1=>
  iL at1 b3 r1.1 r1.2 ({ob with bad:=(ob.bad||(decide (r1.1<(0:Int))))}:aJ))
  else
  (iL at1 b3 (-1:Int) x ob)

def cD(r:aJ)(in1:ae)(t:(List Int))(n:Int)(at1:Int):Option (Int×Int×aJ×(List Int)):=
  if(n==(2:Int))then
  ((mH t).bind fun r2=>
  kC n at1 r2.1 r2.2 ({r with bad:=(r.bad||(decide (r2.1<(0:Int))))}:aJ))
  else
  (kC n at1 (-1:Int) t r)

def il(r:aJ)(in1:ae):Option (List Int):=
 (fC in1).bind fun r1=>
 (dK r.all (IntKind.i64.wrap ((r.all.length:Int)-r1)) (r.all.length:Int)).bind fun y=>
 some y

def oV(out:(List Int))(c:Int):Option (List Int):=
 (jh out ([c])).bind fun l1=>
 some l1

def fe(n:Int):Nat->Int->(List Int)->ae->Option (ae×(List Int))
  |0,_,_,_=>none
  |n1+1,x,x1,ob=>
    if(decide (x<n))then
    ((gG ob.own ob.place.at_).bind fun e=>
    (oV x1 e).bind fun r2=>
    (fe n n1) (IntKind.i64.wrap (x+(1:Int))) r2 ({ob with place:=({ob.place with at_:=(IntKind.i64.wrap (ob.place.at_+(1:Int)))}:lq)}:ae))
    else
    (some (ob,x1))

def m0(r:ae)(n:Int)(out:(List Int)):Option (ae×(List Int)):=
  if(r.place.why !=(0:Int))then
  (some (r,out))
  else
  (if(decide (n<(0:Int)))then
  (some (({r with place:=({r.place with why:=(2:Int)}:lq)}:ae),out))
  else
  ((fC r).bind fun r1=>
  if(decide (r1<n))then
  (some (({r with place:=({r.place with why:=(7:Int)}:lq)}:ae),out))
  else
  (fe n eQ (0:Int) out r)))

def iT(r:ae)(n:Int):Option ((List Int)×ae):=
 (m0 r n ([]:List Int)).bind fun r1=>
 some (r1.2,r1.1)

def fD(r:aJ)(in1:ae)(n:Int)(e:Int):Option (aJ×ae):=
  if(e !=(0:Int))then
  (some (({r with bad:=true}:aJ),in1))
  else
  ((iT in1 n).bind fun r1=>
  some (r,r1.2))

def sx(b:(List Int)):Option (cy×ae):=
 (sk b).bind fun r=>
 some ((⟨(⟨(⟨(0:Int),(0:Int)⟩:lq),[]⟩:ae),(b.length:Int),false⟩:cy),r)

def dl(r:ae):Option (Int×ae):=
 (cd r (8:Int)).bind fun r1=>
 some (r1.1,r1.2)

def cA(t:cy)(in1:ae)(is1:Bool):Option cy:=
  if t.bad then
  (some ({t with bad:=true}:cy))
  else
  ((fg in1).bind fun r=>
  some ({t with bad:=((r==(0:Int))&&(!is1))}:cy))

def dR(t:cy)(in1:ae):Option Bool:=
  if(!t.bad)then
  ((fg in1).bind fun r=>
  some (r==(0:Int)))
  else
  (some false)

def jD(t:cy)(in1:ae):Option (am×cy×ae):=
  (cb in1).bind fun r=>
  (cA t r.2 (decide ((IntKind.i64.wrap r.1)<=(4:Int)))).bind fun r1=>
  (dR r1 r.2).bind fun r2=>
  if(!r2)then
  (some ((am.mk (IntKind.i64.wrap r.1) (⟨(0:Int),(0:Int),(0:Int),[]⟩:am).N (⟨(0:Int),(0:Int),(0:Int),[]⟩:am).U (⟨(0:Int),(0:Int),(0:Int),[]⟩:am).S),r1,r.2))
  else
  (if((IntKind.i64.wrap r.1)==(1:Int))then
  ((cb r.2).bind fun r3=>
  (gR (am.mk (IntKind.i64.wrap r.1) (IntKind.i64.wrap r3.1) (⟨(0:Int),(0:Int),(0:Int),[]⟩:am).U (⟨(0:Int),(0:Int),(0:Int),[]⟩:am).S)).bind fun r4=>
  (cA r1 r3.2 (r4==(0:Int))).bind fun r5=>
  some ((am.mk (IntKind.i64.wrap r.1) (IntKind.i64.wrap r3.1) (⟨(0:Int),(0:Int),(0:Int),[]⟩:am).U (⟨(0:Int),(0:Int),(0:Int),[]⟩:am).S),r5,r3.2))
  else
  (if((IntKind.i64.wrap r.1)==(2:Int))then
  ((dl r.2).bind fun r6=>
  (gR (am.mk (IntKind.i64.wrap r.1) (IntKind.i64.wrap r6.1) (⟨(0:Int),(0:Int),(0:Int),[]⟩:am).U (⟨(0:Int),(0:Int),(0:Int),[]⟩:am).S)).bind fun r7=>
  (cA r1 r6.2 (r7==(0:Int))).bind fun r8=>
  some ((am.mk (IntKind.i64.wrap r.1) (IntKind.i64.wrap r6.1) (⟨(0:Int),(0:Int),(0:Int),[]⟩:am).U (⟨(0:Int),(0:Int),(0:Int),[]⟩:am).S),r8,r6.2))
  else
  (if((IntKind.i64.wrap r.1)==(3:Int))then
  ((cb r.2).bind fun r9=>
  (cA r1 r9.2 (decide ((IntKind.i64.wrap r9.1)<=(40:Int)))).bind fun r10=>
  (dR r10 r9.2).bind fun r11=>
  if r11 then
  ((iT r9.2 (IntKind.i64.wrap r9.1)).bind fun r12=>
  (gR (am.mk (IntKind.i64.wrap r.1) (⟨(0:Int),(0:Int),(0:Int),[]⟩:am).N (⟨(0:Int),(0:Int),(0:Int),[]⟩:am).U (lu r12.1))).bind fun r13=>
  (cA r10 r12.2 (r13==(0:Int))).bind fun r14=>
  some ((am.mk (IntKind.i64.wrap r.1) (⟨(0:Int),(0:Int),(0:Int),[]⟩:am).N (⟨(0:Int),(0:Int),(0:Int),[]⟩:am).U (lu r12.1)),r14,r12.2))
  else
  ((gR (am.mk (IntKind.i64.wrap r.1) (⟨(0:Int),(0:Int),(0:Int),[]⟩:am).N (⟨(0:Int),(0:Int),(0:Int),[]⟩:am).U (⟨(0:Int),(0:Int),(0:Int),[]⟩:am).S)).bind fun r15=>
  (cA r10 r9.2 (r15==(0:Int))).bind fun r16=>
  some ((am.mk (IntKind.i64.wrap r.1) (⟨(0:Int),(0:Int),(0:Int),[]⟩:am).N (⟨(0:Int),(0:Int),(0:Int),[]⟩:am).U (⟨(0:Int),(0:Int),(0:Int),[]⟩:am).S),r16,r9.2)))
  else
  (if((IntKind.i64.wrap r.1)==(4:Int))then
  ((dl r.2).bind fun r17=>
  (dl r17.2).bind fun r18=>
  (gR (am.mk (IntKind.i64.wrap r.1) (IntKind.i64.wrap r17.1) r18.1 (⟨(0:Int),(0:Int),(0:Int),[]⟩:am).S)).bind fun r19=>
  (cA r1 r18.2 (r19==(0:Int))).bind fun r20=>
  some ((am.mk (IntKind.i64.wrap r.1) (IntKind.i64.wrap r17.1) r18.1 (⟨(0:Int),(0:Int),(0:Int),[]⟩:am).S),r20,r18.2))
  else
  ((gR (am.mk (IntKind.i64.wrap r.1) (⟨(0:Int),(0:Int),(0:Int),[]⟩:am).N (⟨(0:Int),(0:Int),(0:Int),[]⟩:am).U (⟨(0:Int),(0:Int),(0:Int),[]⟩:am).S)).bind fun r21=>
  (cA r1 r.2 (r21==(0:Int))).bind fun r22=>
  some ((am.mk (IntKind.i64.wrap r.1) (⟨(0:Int),(0:Int),(0:Int),[]⟩:am).N (⟨(0:Int),(0:Int),(0:Int),[]⟩:am).U (⟨(0:Int),(0:Int),(0:Int),[]⟩:am).S),r22,r.2))))))

def kD(t:cy)(in1:ae)(p:am):Option (am×Int×Int):=
  if t.bad then
  (some ((⟨(0:Int),(0:Int),(0:Int),[]⟩:am),(0:Int),(160:Int)))
  else
  ((fg in1).bind fun r=>
  if(r !=(0:Int))then
  ((fg in1).bind fun r1=>
  some ((⟨(0:Int),(0:Int),(0:Int),[]⟩:am),(0:Int),r1))
  else
  ((fC in1).bind fun r2=>
  some (p,(IntKind.i64.wrap (t.all-r2)),(0:Int))))

def oP(b:(List Int)):Option (am×Int×Int):=
 (sx b).bind fun r=>
 (jD r.1 r.2).bind fun r1=>
 (kD r1.2.1 r1.2.2 r1.1).bind fun r2=>
 some (r2.1,r2.2.1,r2.2.2)

def iU(r:aJ)(in1:ae):Option (am×aJ×ae):=
 (il r in1).bind fun r1=>
 (oP r1).bind fun r2=>
 (fD r in1 r2.2.1 r2.2.2).bind fun r3=>
 some (r2.1,r3.1,r3.2)

def pm(tag:Int):Option Int:=
  if((tag==(1:Int))||(tag==(2:Int)))then
  (some (0:Int))
  else
  (if(decide ((12:Int)<=tag))then
  (some (2:Int))
  else
  (some (1:Int)))

def lE(r:aJ)(in1:ae)(t:(List Int))(at1:Int):Option (ap×aJ×ae×(List Int)×Int):=
  (aM r in1).bind fun r1=>
  if(((⟨r1.1,(0:Int),(0:Int),(0:Int),(⟨(0:Int),(0:Int),(0:Int),[]⟩:am)⟩:ap).Tag)==(2:Int))then
  ((aM r r1.2).bind fun r2=>
  (pm ((⟨r1.1,(0:Int),(0:Int),(0:Int),(⟨(0:Int),(0:Int),(0:Int),[]⟩:am)⟩:ap).Tag)).bind fun r3=>
  (cD r r2.2 t r3 at1).bind fun r4=>
  some ((ap.mk ({(ap.mk (⟨r1.1,(0:Int),(0:Int),(0:Int),(⟨(0:Int),(0:Int),(0:Int),[]⟩:am)⟩:ap).Tag (⟨r1.1,(0:Int),(0:Int),(0:Int),(⟨(0:Int),(0:Int),(0:Int),[]⟩:am)⟩:ap).L (⟨r1.1,(0:Int),(0:Int),(0:Int),(⟨(0:Int),(0:Int),(0:Int),[]⟩:am)⟩:ap).R r2.1 (⟨r1.1,(0:Int),(0:Int),(0:Int),(⟨(0:Int),(0:Int),(0:Int),[]⟩:am)⟩:ap).Value)with L:=r4.1}:ap).Tag ({(ap.mk (⟨r1.1,(0:Int),(0:Int),(0:Int),(⟨(0:Int),(0:Int),(0:Int),[]⟩:am)⟩:ap).Tag (⟨r1.1,(0:Int),(0:Int),(0:Int),(⟨(0:Int),(0:Int),(0:Int),[]⟩:am)⟩:ap).L (⟨r1.1,(0:Int),(0:Int),(0:Int),(⟨(0:Int),(0:Int),(0:Int),[]⟩:am)⟩:ap).R r2.1 (⟨r1.1,(0:Int),(0:Int),(0:Int),(⟨(0:Int),(0:Int),(0:Int),[]⟩:am)⟩:ap).Value)with L:=r4.1}:ap).L r4.2.1 ({(ap.mk (⟨r1.1,(0:Int),(0:Int),(0:Int),(⟨(0:Int),(0:Int),(0:Int),[]⟩:am)⟩:ap).Tag (⟨r1.1,(0:Int),(0:Int),(0:Int),(⟨(0:Int),(0:Int),(0:Int),[]⟩:am)⟩:ap).L (⟨r1.1,(0:Int),(0:Int),(0:Int),(⟨(0:Int),(0:Int),(0:Int),[]⟩:am)⟩:ap).R r2.1 (⟨r1.1,(0:Int),(0:Int),(0:Int),(⟨(0:Int),(0:Int),(0:Int),[]⟩:am)⟩:ap).Value)with L:=r4.1}:ap).Col ({(ap.mk (⟨r1.1,(0:Int),(0:Int),(0:Int),(⟨(0:Int),(0:Int),(0:Int),[]⟩:am)⟩:ap).Tag (⟨r1.1,(0:Int),(0:Int),(0:Int),(⟨(0:Int),(0:Int),(0:Int),[]⟩:am)⟩:ap).L (⟨r1.1,(0:Int),(0:Int),(0:Int),(⟨(0:Int),(0:Int),(0:Int),[]⟩:am)⟩:ap).R r2.1 (⟨r1.1,(0:Int),(0:Int),(0:Int),(⟨(0:Int),(0:Int),(0:Int),[]⟩:am)⟩:ap).Value)with L:=r4.1}:ap).Value),r4.2.2.1,r2.2,r4.2.2.2,(IntKind.i64.wrap (at1+(1:Int)))))
  else
  (if(((⟨r1.1,(0:Int),(0:Int),(0:Int),(⟨(0:Int),(0:Int),(0:Int),[]⟩:am)⟩:ap).Tag)==(1:Int))then
  ((iU r r1.2).bind fun r5=>
  (pm ((⟨r1.1,(0:Int),(0:Int),(0:Int),(⟨(0:Int),(0:Int),(0:Int),[]⟩:am)⟩:ap).Tag)).bind fun r6=>
  (cD r5.2.1 r5.2.2 t r6 at1).bind fun r7=>
  some ((ap.mk ({(ap.mk (⟨r1.1,(0:Int),(0:Int),(0:Int),(⟨(0:Int),(0:Int),(0:Int),[]⟩:am)⟩:ap).Tag (⟨r1.1,(0:Int),(0:Int),(0:Int),(⟨(0:Int),(0:Int),(0:Int),[]⟩:am)⟩:ap).L (⟨r1.1,(0:Int),(0:Int),(0:Int),(⟨(0:Int),(0:Int),(0:Int),[]⟩:am)⟩:ap).R (⟨r1.1,(0:Int),(0:Int),(0:Int),(⟨(0:Int),(0:Int),(0:Int),[]⟩:am)⟩:ap).Col r5.1)with L:=r7.1}:ap).Tag ({(ap.mk (⟨r1.1,(0:Int),(0:Int),(0:Int),(⟨(0:Int),(0:Int),(0:Int),[]⟩:am)⟩:ap).Tag (⟨r1.1,(0:Int),(0:Int),(0:Int),(⟨(0:Int),(0:Int),(0:Int),[]⟩:am)⟩:ap).L (⟨r1.1,(0:Int),(0:Int),(0:Int),(⟨(0:Int),(0:Int),(0:Int),[]⟩:am)⟩:ap).R (⟨r1.1,(0:Int),(0:Int),(0:Int),(⟨(0:Int),(0:Int),(0:Int),[]⟩:am)⟩:ap).Col r5.1)with L:=r7.1}:ap).L r7.2.1 ({(ap.mk (⟨r1.1,(0:Int),(0:Int),(0:Int),(⟨(0:Int),(0:Int),(0:Int),[]⟩:am)⟩:ap).Tag (⟨r1.1,(0:Int),(0:Int),(0:Int),(⟨(0:Int),(0:Int),(0:Int),[]⟩:am)⟩:ap).L (⟨r1.1,(0:Int),(0:Int),(0:Int),(⟨(0:Int),(0:Int),(0:Int),[]⟩:am)⟩:ap).R (⟨r1.1,(0:Int),(0:Int),(0:Int),(⟨(0:Int),(0:Int),(0:Int),[]⟩:am)⟩:ap).Col r5.1)with L:=r7.1}:ap).Col ({(ap.mk (⟨r1.1,(0:Int),(0:Int),(0:Int),(⟨(0:Int),(0:Int),(0:Int),[]⟩:am)⟩:ap).Tag (⟨r1.1,(0:Int),(0:Int),(0:Int),(⟨(0:Int),(0:Int),(0:Int),[]⟩:am)⟩:ap).L (⟨r1.1,(0:Int),(0:Int),(0:Int),(⟨(0:Int),(0:Int),(0:Int),[]⟩:am)⟩:ap).R (⟨r1.1,(0:Int),(0:Int),(0:Int),(⟨(0:Int),(0:Int),(0:Int),[]⟩:am)⟩:ap).Col r5.1)with L:=r7.1}:ap).Value),r7.2.2.1,r5.2.2,r7.2.2.2,(IntKind.i64.wrap (at1+(1:Int)))))
  else
  ((pm ((⟨r1.1,(0:Int),(0:Int),(0:Int),(⟨(0:Int),(0:Int),(0:Int),[]⟩:am)⟩:ap).Tag)).bind fun r8=>
  (cD r r1.2 t r8 at1).bind fun r9=>
  some ((ap.mk ({(⟨r1.1,(0:Int),(0:Int),(0:Int),(⟨(0:Int),(0:Int),(0:Int),[]⟩:am)⟩:ap)with L:=r9.1}:ap).Tag ({(⟨r1.1,(0:Int),(0:Int),(0:Int),(⟨(0:Int),(0:Int),(0:Int),[]⟩:am)⟩:ap)with L:=r9.1}:ap).L r9.2.1 ({(⟨r1.1,(0:Int),(0:Int),(0:Int),(⟨(0:Int),(0:Int),(0:Int),[]⟩:am)⟩:ap)with L:=r9.1}:ap).Col ({(⟨r1.1,(0:Int),(0:Int),(0:Int),(⟨(0:Int),(0:Int),(0:Int),[]⟩:am)⟩:ap)with L:=r9.1}:ap).Value),r9.2.2.1,r1.2,r9.2.2.2,(IntKind.i64.wrap (at1+(1:Int))))))

def j0(out:List ap)(x:Int)(x1:List Int)(ob:aJ)(ob1:ae):Option ((List ap)×aJ×ae×(List Int)×Int):=
 some (out,ob,ob1,x1,x)

def fG(n:Int):Nat->(List ap)->Int->Int->(List Int)->aJ->ae->Option ((List ap)×aJ×ae×(List Int)×Int)
  |0,_,_,_,_,_,_=>none
  |n1+1,out1,x2,x3,x4,ob2,ob3=>
    if(decide (x2<n))then
    ((cV ob2 ob3).bind fun r1=>
    if(!r1)then
    (j0 out1 x3 x4 ob2 ob3)
    else
    ((lE ob2 ob3 x4 x3).bind fun r2=>
    (jh out1 ([r2.1])).bind fun out2=>
    (fG n n1) out2 (IntKind.i64.wrap (x2+(1:Int))) r2.2.2.2.2 r2.2.2.2.1 r2.2.1 r2.2.2.1))
    else
    (j0 out1 x3 x4 ob2 ob3)

def jf(r:aJ)(in1:ae)(n:Int)(t:(List Int))(at1:Int):Option ((List ap)×aJ×ae×(List Int)×Int):=
 fG n eQ ([]:List ap) (0:Int) at1 t r in1

def fE(r:aJ)(in1:ae):Option (aR×aJ×ae):=
 (gW in1).bind fun r1=>
 (jf r r1.2 (IntKind.i64.wrap r1.1) ([]:List Int) (0:Int)).bind fun r2=>
 some ((⟨r2.1⟩:aR),r2.2.1,r2.2.2.1)

def oa(r:aJ)(in1:ae):Option (fI×aJ×ae):=
 (aM r in1).bind fun r1=>
 (fE r r1.2).bind fun r2=>
 some ((⟨r1.1,r2.1⟩:fI),r2.2.1,r2.2.2)

def n9(r:aJ)(in1:ae):Option (kF×aJ×ae):=
 (aM r in1).bind fun r1=>
 (eN r r1.2).bind fun r2=>
 some ((⟨r1.1,r2.1⟩:kF),r2.2.1,r2.2.2)

def kL(out:List fI)(ob:aJ)(ob1:ae):Option ((List fI)×aJ×ae):=
 some (out,ob,ob1)

def iG(n:Int):Nat->(List fI)->Int->aJ->ae->Option ((List fI)×aJ×ae)
  |0,_,_,_,_=>none
  |n1+1,out1,x,ob2,ob3=>
    if(decide (x<n))then
    ((cV ob2 ob3).bind fun r1=>
    if(!r1)then
    (kL out1 ob2 ob3)
    else
    ((oa ob2 ob3).bind fun r2=>
    (jh out1 ([r2.1])).bind fun out2=>
    (iG n n1) out2 (IntKind.i64.wrap (x+(1:Int))) r2.2.1 r2.2.2))
    else
    (kL out1 ob2 ob3)

def j3(r:aJ)(in1:ae)(n:Int):Option ((List fI)×aJ×ae):=
 iG n eQ ([]:List fI) (0:Int) r in1

def kw(out:List aR)(ob:aJ)(ob1:ae):Option ((List aR)×aJ×ae):=
 some (out,ob,ob1)

def io(n:Int):Nat->(List aR)->Int->aJ->ae->Option ((List aR)×aJ×ae)
  |0,_,_,_,_=>none
  |n1+1,out1,x,ob2,ob3=>
    if(decide (x<n))then
    ((cV ob2 ob3).bind fun r1=>
    if(!r1)then
    (kw out1 ob2 ob3)
    else
    ((fE ob2 ob3).bind fun r2=>
    (jh out1 ([r2.1])).bind fun out2=>
    (io n n1) out2 (IntKind.i64.wrap (x+(1:Int))) r2.2.1 r2.2.2))
    else
    (kw out1 ob2 ob3)

def jC(r:aJ)(in1:ae)(n:Int):Option ((List aR)×aJ×ae):=
 io n eQ ([]:List aR) (0:Int) r in1

def kK(out:List kF)(ob:aJ)(ob1:ae):Option ((List kF)×aJ×ae):=
 some (out,ob,ob1)

def iF(n:Int):Nat->(List kF)->Int->aJ->ae->Option ((List kF)×aJ×ae)
  |0,_,_,_,_=>none
  |n1+1,out1,x,ob2,ob3=>
    if(decide (x<n))then
    ((cV ob2 ob3).bind fun r1=>
    if(!r1)then
    (kK out1 ob2 ob3)
    else
    ((n9 ob2 ob3).bind fun r2=>
    (jh out1 ([r2.1])).bind fun out2=>
    (iF n n1) out2 (IntKind.i64.wrap (x+(1:Int))) r2.2.1 r2.2.2))
    else
    (kK out1 ob2 ob3)

def jY(r:aJ)(in1:ae)(n:Int):Option ((List kF)×aJ×ae):=
 iF n eQ ([]:List kF) (0:Int) r in1

def js(r:aJ)(t:(List Int))(at1:Int)(r1:Int×ae)(x1:Bool):Option (aa×aJ×ae×(List Int)):=
  if x1 then
  ((gZ r r1.2).bind fun r10=>
  (aM r r10.2).bind fun r11=>
  (j3 r r11.2 r11.1).bind fun r12=>
  (cD r12.2.1 r12.2.2 t (1:Int) at1).bind fun r13=>
  some ((aa.mk (⟨r1.1,(0:Int),(0:Int),(0:Int),[],false,(⟨[]⟩:aR),[],[],[],[],(0:Int)⟩:aa).Op r13.1 r13.2.1 (⟨r1.1,(0:Int),(0:Int),(0:Int),[],false,(⟨[]⟩:aR),[],[],[],[],(0:Int)⟩:aa).Table (⟨r1.1,(0:Int),(0:Int),(0:Int),[],false,(⟨[]⟩:aR),[],[],[],[],(0:Int)⟩:aa).Kinds (⟨r1.1,(0:Int),(0:Int),(0:Int),[],false,(⟨[]⟩:aR),[],[],[],[],(0:Int)⟩:aa).Left (⟨r1.1,(0:Int),(0:Int),(0:Int),[],false,(⟨[]⟩:aR),[],[],[],[],(0:Int)⟩:aa).Cond r10.1 r12.1 (⟨r1.1,(0:Int),(0:Int),(0:Int),[],false,(⟨[]⟩:aR),[],[],[],[],(0:Int)⟩:aa).Items (⟨r1.1,(0:Int),(0:Int),(0:Int),[],false,(⟨[]⟩:aR),[],[],[],[],(0:Int)⟩:aa).Order (⟨r1.1,(0:Int),(0:Int),(0:Int),[],false,(⟨[]⟩:aR),[],[],[],[],(0:Int)⟩:aa).Limit),r13.2.2.1,r12.2.2,r13.2.2.2))
  else
  (if(((⟨r1.1,(0:Int),(0:Int),(0:Int),[],false,(⟨[]⟩:aR),[],[],[],[],(0:Int)⟩:aa).Op)==(5:Int))then
  ((aM r r1.2).bind fun r14=>
  (jC r r14.2 r14.1).bind fun r15=>
  (cD r15.2.1 r15.2.2 t (1:Int) at1).bind fun r16=>
  some ((aa.mk (⟨r1.1,(0:Int),(0:Int),(0:Int),[],false,(⟨[]⟩:aR),[],[],[],[],(0:Int)⟩:aa).Op r16.1 r16.2.1 (⟨r1.1,(0:Int),(0:Int),(0:Int),[],false,(⟨[]⟩:aR),[],[],[],[],(0:Int)⟩:aa).Table (⟨r1.1,(0:Int),(0:Int),(0:Int),[],false,(⟨[]⟩:aR),[],[],[],[],(0:Int)⟩:aa).Kinds (⟨r1.1,(0:Int),(0:Int),(0:Int),[],false,(⟨[]⟩:aR),[],[],[],[],(0:Int)⟩:aa).Left (⟨r1.1,(0:Int),(0:Int),(0:Int),[],false,(⟨[]⟩:aR),[],[],[],[],(0:Int)⟩:aa).Cond (⟨r1.1,(0:Int),(0:Int),(0:Int),[],false,(⟨[]⟩:aR),[],[],[],[],(0:Int)⟩:aa).Keys (⟨r1.1,(0:Int),(0:Int),(0:Int),[],false,(⟨[]⟩:aR),[],[],[],[],(0:Int)⟩:aa).Aggs r15.1 (⟨r1.1,(0:Int),(0:Int),(0:Int),[],false,(⟨[]⟩:aR),[],[],[],[],(0:Int)⟩:aa).Order (⟨r1.1,(0:Int),(0:Int),(0:Int),[],false,(⟨[]⟩:aR),[],[],[],[],(0:Int)⟩:aa).Limit),r16.2.2.1,r15.2.2,r16.2.2.2))
  else
  (if(((⟨r1.1,(0:Int),(0:Int),(0:Int),[],false,(⟨[]⟩:aR),[],[],[],[],(0:Int)⟩:aa).Op)==(8:Int))then
  ((aM r r1.2).bind fun r17=>
  (jY r r17.2 r17.1).bind fun r18=>
  (ka r18.2.2).bind fun r19=>
  (cD r18.2.1 r19.2 t (1:Int) at1).bind fun r20=>
  some ((aa.mk (⟨r1.1,(0:Int),(0:Int),(0:Int),[],false,(⟨[]⟩:aR),[],[],[],[],(0:Int)⟩:aa).Op r20.1 r20.2.1 (⟨r1.1,(0:Int),(0:Int),(0:Int),[],false,(⟨[]⟩:aR),[],[],[],[],(0:Int)⟩:aa).Table (⟨r1.1,(0:Int),(0:Int),(0:Int),[],false,(⟨[]⟩:aR),[],[],[],[],(0:Int)⟩:aa).Kinds (⟨r1.1,(0:Int),(0:Int),(0:Int),[],false,(⟨[]⟩:aR),[],[],[],[],(0:Int)⟩:aa).Left (⟨r1.1,(0:Int),(0:Int),(0:Int),[],false,(⟨[]⟩:aR),[],[],[],[],(0:Int)⟩:aa).Cond (⟨r1.1,(0:Int),(0:Int),(0:Int),[],false,(⟨[]⟩:aR),[],[],[],[],(0:Int)⟩:aa).Keys (⟨r1.1,(0:Int),(0:Int),(0:Int),[],false,(⟨[]⟩:aR),[],[],[],[],(0:Int)⟩:aa).Aggs (⟨r1.1,(0:Int),(0:Int),(0:Int),[],false,(⟨[]⟩:aR),[],[],[],[],(0:Int)⟩:aa).Items r18.1 (IntKind.i64.wrap ((IntKind.i64.wrap r19.1)-(1:Int)))),r20.2.2.1,r19.2,r20.2.2.2))
  else
  (if(((⟨r1.1,(0:Int),(0:Int),(0:Int),[],false,(⟨[]⟩:aR),[],[],[],[],(0:Int)⟩:aa).Op)==(7:Int))then
  ((cD r r1.2 t (2:Int) at1).bind fun r21=>
  some ((aa.mk (⟨r1.1,(0:Int),(0:Int),(0:Int),[],false,(⟨[]⟩:aR),[],[],[],[],(0:Int)⟩:aa).Op r21.1 r21.2.1 (⟨r1.1,(0:Int),(0:Int),(0:Int),[],false,(⟨[]⟩:aR),[],[],[],[],(0:Int)⟩:aa).Table (⟨r1.1,(0:Int),(0:Int),(0:Int),[],false,(⟨[]⟩:aR),[],[],[],[],(0:Int)⟩:aa).Kinds (⟨r1.1,(0:Int),(0:Int),(0:Int),[],false,(⟨[]⟩:aR),[],[],[],[],(0:Int)⟩:aa).Left (⟨r1.1,(0:Int),(0:Int),(0:Int),[],false,(⟨[]⟩:aR),[],[],[],[],(0:Int)⟩:aa).Cond (⟨r1.1,(0:Int),(0:Int),(0:Int),[],false,(⟨[]⟩:aR),[],[],[],[],(0:Int)⟩:aa).Keys (⟨r1.1,(0:Int),(0:Int),(0:Int),[],false,(⟨[]⟩:aR),[],[],[],[],(0:Int)⟩:aa).Aggs (⟨r1.1,(0:Int),(0:Int),(0:Int),[],false,(⟨[]⟩:aR),[],[],[],[],(0:Int)⟩:aa).Items (⟨r1.1,(0:Int),(0:Int),(0:Int),[],false,(⟨[]⟩:aR),[],[],[],[],(0:Int)⟩:aa).Order (⟨r1.1,(0:Int),(0:Int),(0:Int),[],false,(⟨[]⟩:aR),[],[],[],[],(0:Int)⟩:aa).Limit),r21.2.2.1,r1.2,r21.2.2.2))
  else
  ((cD r r1.2 t (1:Int) at1).bind fun r22=>
  some ((aa.mk (⟨r1.1,(0:Int),(0:Int),(0:Int),[],false,(⟨[]⟩:aR),[],[],[],[],(0:Int)⟩:aa).Op r22.1 r22.2.1 (⟨r1.1,(0:Int),(0:Int),(0:Int),[],false,(⟨[]⟩:aR),[],[],[],[],(0:Int)⟩:aa).Table (⟨r1.1,(0:Int),(0:Int),(0:Int),[],false,(⟨[]⟩:aR),[],[],[],[],(0:Int)⟩:aa).Kinds (⟨r1.1,(0:Int),(0:Int),(0:Int),[],false,(⟨[]⟩:aR),[],[],[],[],(0:Int)⟩:aa).Left (⟨r1.1,(0:Int),(0:Int),(0:Int),[],false,(⟨[]⟩:aR),[],[],[],[],(0:Int)⟩:aa).Cond (⟨r1.1,(0:Int),(0:Int),(0:Int),[],false,(⟨[]⟩:aR),[],[],[],[],(0:Int)⟩:aa).Keys (⟨r1.1,(0:Int),(0:Int),(0:Int),[],false,(⟨[]⟩:aR),[],[],[],[],(0:Int)⟩:aa).Aggs (⟨r1.1,(0:Int),(0:Int),(0:Int),[],false,(⟨[]⟩:aR),[],[],[],[],(0:Int)⟩:aa).Items (⟨r1.1,(0:Int),(0:Int),(0:Int),[],false,(⟨[]⟩:aR),[],[],[],[],(0:Int)⟩:aa).Order (⟨r1.1,(0:Int),(0:Int),(0:Int),[],false,(⟨[]⟩:aR),[],[],[],[],(0:Int)⟩:aa).Limit),r22.2.2.1,r1.2,r22.2.2.2)))))

def k7(r:aJ)(t:(List Int))(at1:Int)(r1:Int×ae)(x:Bool):Option (aa×aJ×ae×(List Int)):=
  if x then
  ((aM r r1.2).bind fun r2=>
  (gZ r r2.2).bind fun r3=>
  (cD r r3.2 t (0:Int) at1).bind fun r4=>
  some ((aa.mk (⟨r1.1,(0:Int),(0:Int),(0:Int),[],false,(⟨[]⟩:aR),[],[],[],[],(0:Int)⟩:aa).Op r4.1 r4.2.1 r2.1 r3.1 (⟨r1.1,(0:Int),(0:Int),(0:Int),[],false,(⟨[]⟩:aR),[],[],[],[],(0:Int)⟩:aa).Left (⟨r1.1,(0:Int),(0:Int),(0:Int),[],false,(⟨[]⟩:aR),[],[],[],[],(0:Int)⟩:aa).Cond (⟨r1.1,(0:Int),(0:Int),(0:Int),[],false,(⟨[]⟩:aR),[],[],[],[],(0:Int)⟩:aa).Keys (⟨r1.1,(0:Int),(0:Int),(0:Int),[],false,(⟨[]⟩:aR),[],[],[],[],(0:Int)⟩:aa).Aggs (⟨r1.1,(0:Int),(0:Int),(0:Int),[],false,(⟨[]⟩:aR),[],[],[],[],(0:Int)⟩:aa).Items (⟨r1.1,(0:Int),(0:Int),(0:Int),[],false,(⟨[]⟩:aR),[],[],[],[],(0:Int)⟩:aa).Order (⟨r1.1,(0:Int),(0:Int),(0:Int),[],false,(⟨[]⟩:aR),[],[],[],[],(0:Int)⟩:aa).Limit),r4.2.2.1,r3.2,r4.2.2.2))
  else
  (if(((⟨r1.1,(0:Int),(0:Int),(0:Int),[],false,(⟨[]⟩:aR),[],[],[],[],(0:Int)⟩:aa).Op)==(2:Int))then
  ((eN r r1.2).bind fun r5=>
  (fE r5.2.1 r5.2.2).bind fun r6=>
  (cD r6.2.1 r6.2.2 t (2:Int) at1).bind fun r7=>
  some ((aa.mk (⟨r1.1,(0:Int),(0:Int),(0:Int),[],false,(⟨[]⟩:aR),[],[],[],[],(0:Int)⟩:aa).Op r7.1 r7.2.1 (⟨r1.1,(0:Int),(0:Int),(0:Int),[],false,(⟨[]⟩:aR),[],[],[],[],(0:Int)⟩:aa).Table (⟨r1.1,(0:Int),(0:Int),(0:Int),[],false,(⟨[]⟩:aR),[],[],[],[],(0:Int)⟩:aa).Kinds r5.1 r6.1 (⟨r1.1,(0:Int),(0:Int),(0:Int),[],false,(⟨[]⟩:aR),[],[],[],[],(0:Int)⟩:aa).Keys (⟨r1.1,(0:Int),(0:Int),(0:Int),[],false,(⟨[]⟩:aR),[],[],[],[],(0:Int)⟩:aa).Aggs (⟨r1.1,(0:Int),(0:Int),(0:Int),[],false,(⟨[]⟩:aR),[],[],[],[],(0:Int)⟩:aa).Items (⟨r1.1,(0:Int),(0:Int),(0:Int),[],false,(⟨[]⟩:aR),[],[],[],[],(0:Int)⟩:aa).Order (⟨r1.1,(0:Int),(0:Int),(0:Int),[],false,(⟨[]⟩:aR),[],[],[],[],(0:Int)⟩:aa).Limit),r7.2.2.1,r6.2.2,r7.2.2.2))
  else
  (if(((⟨r1.1,(0:Int),(0:Int),(0:Int),[],false,(⟨[]⟩:aR),[],[],[],[],(0:Int)⟩:aa).Op)==(3:Int))then
  ((fE r r1.2).bind fun r8=>
  (cD r8.2.1 r8.2.2 t (1:Int) at1).bind fun r9=>
  some ((aa.mk (⟨r1.1,(0:Int),(0:Int),(0:Int),[],false,(⟨[]⟩:aR),[],[],[],[],(0:Int)⟩:aa).Op r9.1 r9.2.1 (⟨r1.1,(0:Int),(0:Int),(0:Int),[],false,(⟨[]⟩:aR),[],[],[],[],(0:Int)⟩:aa).Table (⟨r1.1,(0:Int),(0:Int),(0:Int),[],false,(⟨[]⟩:aR),[],[],[],[],(0:Int)⟩:aa).Kinds (⟨r1.1,(0:Int),(0:Int),(0:Int),[],false,(⟨[]⟩:aR),[],[],[],[],(0:Int)⟩:aa).Left r8.1 (⟨r1.1,(0:Int),(0:Int),(0:Int),[],false,(⟨[]⟩:aR),[],[],[],[],(0:Int)⟩:aa).Keys (⟨r1.1,(0:Int),(0:Int),(0:Int),[],false,(⟨[]⟩:aR),[],[],[],[],(0:Int)⟩:aa).Aggs (⟨r1.1,(0:Int),(0:Int),(0:Int),[],false,(⟨[]⟩:aR),[],[],[],[],(0:Int)⟩:aa).Items (⟨r1.1,(0:Int),(0:Int),(0:Int),[],false,(⟨[]⟩:aR),[],[],[],[],(0:Int)⟩:aa).Order (⟨r1.1,(0:Int),(0:Int),(0:Int),[],false,(⟨[]⟩:aR),[],[],[],[],(0:Int)⟩:aa).Limit),r9.2.2.1,r8.2.2,r9.2.2.2))
  else
  (if(((⟨r1.1,(0:Int),(0:Int),(0:Int),[],false,(⟨[]⟩:aR),[],[],[],[],(0:Int)⟩:aa).Op)==(4:Int))then
  (js r t at1 r1 (((⟨r1.1,(0:Int),(0:Int),(0:Int),[],false,(⟨[]⟩:aR),[],[],[],[],(0:Int)⟩:aa).Op)==(4:Int)))
  else
  (if(((⟨r1.1,(0:Int),(0:Int),(0:Int),[],false,(⟨[]⟩:aR),[],[],[],[],(0:Int)⟩:aa).Op)==(10:Int))then
  (js r t at1 r1 (((⟨r1.1,(0:Int),(0:Int),(0:Int),[],false,(⟨[]⟩:aR),[],[],[],[],(0:Int)⟩:aa).Op)==(10:Int)))
  else
  (js r t at1 r1 (((⟨r1.1,(0:Int),(0:Int),(0:Int),[],false,(⟨[]⟩:aR),[],[],[],[],(0:Int)⟩:aa).Op)==(11:Int)))))))

def pQ(r:aJ)(in1:ae)(t:(List Int))(at1:Int):Option (aa×aJ×ae×(List Int)):=
 (aM r in1).bind fun r1=>
 if(((⟨r1.1,(0:Int),(0:Int),(0:Int),[],false,(⟨[]⟩:aR),[],[],[],[],(0:Int)⟩:aa).Op)==(1:Int))then
 (k7 r t at1 r1 (((⟨r1.1,(0:Int),(0:Int),(0:Int),[],false,(⟨[]⟩:aR),[],[],[],[],(0:Int)⟩:aa).Op)==(1:Int)))
 else
 (k7 r t at1 r1 (((⟨r1.1,(0:Int),(0:Int),(0:Int),[],false,(⟨[]⟩:aR),[],[],[],[],(0:Int)⟩:aa).Op)==(9:Int)))

def lD(r:aJ)(in1:ae)(t:(List Int))(at1:Int):Option (aa×aJ×ae×(List Int)×Int):=
 (pQ r in1 t at1).bind fun r1=>
 some (r1.1,r1.2.1,r1.2.2.1,r1.2.2.2,(IntKind.i64.wrap (at1+(1:Int))))

def jZ(out:List aa)(x:Int)(x1:List Int)(ob:aJ)(ob1:ae):Option ((List aa)×aJ×ae×(List Int)×Int):=
 some (out,ob,ob1,x1,x)

def fF(n:Int):Nat->(List aa)->Int->Int->(List Int)->aJ->ae->Option ((List aa)×aJ×ae×(List Int)×Int)
  |0,_,_,_,_,_,_=>none
  |n1+1,out1,x2,x3,x4,ob2,ob3=>
    if(decide (x2<n))then
    ((cV ob2 ob3).bind fun r1=>
    if(!r1)then
    (jZ out1 x3 x4 ob2 ob3)
    else
    ((lD ob2 ob3 x4 x3).bind fun r2=>
    (jh out1 ([r2.1])).bind fun out2=>
    (fF n n1) out2 (IntKind.i64.wrap (x2+(1:Int))) r2.2.2.2.2 r2.2.2.2.1 r2.2.1 r2.2.2.1))
    else
    (jZ out1 x3 x4 ob2 ob3)

def lk(r:aJ)(in1:ae)(n:Int)(t:(List Int))(at1:Int):Option ((List aa)×aJ×ae×(List Int)×Int):=
 fF n eQ ([]:List aa) (0:Int) at1 t r in1

def na(r:aJ)(in1:ae):Option (dC×aJ×ae):=
 (aM r in1).bind fun r1=>
 (aM r r1.2).bind fun r2=>
 (gZ r r2.2).bind fun r3=>
 (aM r r3.2).bind fun r4=>
 (lk r r4.2 r4.1 ([]:List Int) (0:Int)).bind fun r5=>
 some ((dC.mk r5.1 (⟨[],r1.1,r2.1,r3.1⟩:dC).At (⟨[],r1.1,r2.1,r3.1⟩:dC).Way (⟨[],r1.1,r2.1,r3.1⟩:dC).Cols),r5.2.1,r5.2.2.1)

def ku(out:List dC)(ob:aJ)(ob1:ae):Option ((List dC)×aJ×ae):=
 some (out,ob,ob1)

def im(n:Int):Nat->(List dC)->Int->aJ->ae->Option ((List dC)×aJ×ae)
  |0,_,_,_,_=>none
  |n1+1,out1,x,ob2,ob3=>
    if(decide (x<n))then
    ((cV ob2 ob3).bind fun r1=>
    if(!r1)then
    (ku out1 ob2 ob3)
    else
    ((na ob2 ob3).bind fun r2=>
    (jh out1 ([r2.1])).bind fun out2=>
    (im n n1) out2 (IntKind.i64.wrap (x+(1:Int))) r2.2.1 r2.2.2))
    else
    (ku out1 ob2 ob3)

def lV(r:aJ)(in1:ae)(n:Int):Option ((List dC)×aJ×ae):=
 im n eQ ([]:List dC) (0:Int) r in1

def m9(r:aJ)(in1:ae):Option (da×aJ×ae):=
 (aM r in1).bind fun r1=>
 (lV r r1.2 r1.1).bind fun r2=>
 some ((⟨r2.1⟩:da),r2.2.1,r2.2.2)

def iV(r:aJ)(in1:ae):Option Bool:=
  (cV r in1).bind fun r1=>
  if r1 then
  ((fC in1).bind fun r2=>
  some (r2==(0:Int)))
  else
  (some false)

def qi(b:(List Int)):Option ((List Int)×Int):=
  if(decide ((IntKind.i64.wrap ((b.length:Int)-(4:Int)))<(0:Int)))then
  (some ([],(7:Int)))
  else
  ((dK b 0 (IntKind.i64.wrap ((b.length:Int)-(4:Int)))).bind fun y=>
  (nM y).bind fun r=>
  (mq r).bind fun r1=>
  (lc r1 b).bind fun r2=>
  if(!r2)then
  (some ([],(130:Int)))
  else
  (some (r,(0:Int))))

def lH(t:cy)(in1:ae)(p:(List (List am))):Option ((List (List am))×Int×Int):=
  if t.bad then
  (some ([],(0:Int),(160:Int)))
  else
  ((fg in1).bind fun r=>
  if(r !=(0:Int))then
  ((fg in1).bind fun r1=>
  some ([],(0:Int),r1))
  else
  ((fC in1).bind fun r2=>
  some (p,(IntKind.i64.wrap (t.all-r2)),(0:Int))))

def hE(n:Int):Nat->(List am)->Int->cy->ae->Option ((List am)×cy×ae)
  |0,_,_,_,_=>none
  |n1+1,out,i,ob,ob1=>
    if(decide (i<n))then
    ((dR ob ob1).bind fun r=>
    if r then
    ((jD ob ob1).bind fun r1=>
    (jh out ([r1.1])).bind fun out1=>
    (hE n n1) out1 (IntKind.i64.wrap (i+(1:Int))) r1.2.1 r1.2.2)
    else
    (some (out,ob,ob1)))
    else
    (some (out,ob,ob1))

def fi(t:cy)(in1:ae)(n:Int):Option ((List am)×cy×ae):=
 hE n eQ ([]:List am) (0:Int) t in1

def oO(t:cy)(in1:ae):Option ((List am)×cy×ae):=
 (cb in1).bind fun r=>
 (cA t r.2 (decide ((IntKind.i64.wrap r.1)<=(16:Int)))).bind fun r1=>
 (fi r1 r.2 (IntKind.i64.wrap r.1)).bind fun r2=>
 some (r2.1,r2.2.1,r2.2.2)

def iH(n:Int):Nat->(List (List am))->Int->cy->ae->Option ((List (List am))×cy×ae)
  |0,_,_,_,_=>none
  |n1+1,out,i,ob,ob1=>
    if(decide (i<n))then
    ((dR ob ob1).bind fun r=>
    if r then
    ((oO ob ob1).bind fun r1=>
    (jh out ([r1.1])).bind fun out1=>
    (iH n n1) out1 (IntKind.i64.wrap (i+(1:Int))) r1.2.1 r1.2.2)
    else
    (some (out,ob,ob1)))
    else
    (some (out,ob,ob1))

def gb(t:cy)(in1:ae)(n:Int):Option ((List (List am))×cy×ae):=
 iH n eQ ([]:List (List am)) (0:Int) t in1

def oh(t:cy)(in1:ae):Option ((List (List am))×cy×ae):=
 (gW in1).bind fun r=>
 (cA t r.2 (decide ((IntKind.i64.wrap r.1)<=(400:Int)))).bind fun r1=>
 (gb r1 r.2 (IntKind.i64.wrap r.1)).bind fun r2=>
 some (r2.1,r2.2.1,r2.2.2)

def mb(b:(List Int)):Option ((List (List am))×Int×Int):=
 (sx b).bind fun r=>
 (oh r.1 r.2).bind fun r1=>
 (lH r1.2.1 r1.2.2 r1.1).bind fun r2=>
 some (r2.1,r2.2.1,r2.2.2)

def jX(p:aO)(ob:aJ)(ob1:ae):Option (aO×aJ×ae):=
 some (p,ob,ob1)

def jP(r:aJ)(in1:ae)(kind:Int):Option (aO×aJ×ae):=
  (ka in1).bind fun r1=>
  (dl r1.2).bind fun r2=>
  if(kind==(2:Int))then
  ((dl r2.2).bind fun r3=>
  some ((aO.mk (⟨kind,r1.1,r2.1,(0:Int),(⟨[],false,(0:Int)⟩:bH)⟩:aO).Kind (⟨kind,r1.1,r2.1,(0:Int),(⟨[],false,(0:Int)⟩:bH)⟩:aO).Session (⟨kind,r1.1,r2.1,(0:Int),(⟨[],false,(0:Int)⟩:bH)⟩:aO).Seq r3.1 (⟨kind,r1.1,r2.1,(0:Int),(⟨[],false,(0:Int)⟩:bH)⟩:aO).Batch),r,r3.2))
  else
  ((eN r r2.2).bind fun r4=>
  if((({(⟨kind,r1.1,r2.1,(0:Int),(⟨[],false,(0:Int)⟩:bH)⟩:aO)with Batch:=({(⟨kind,r1.1,r2.1,(0:Int),(⟨[],false,(0:Int)⟩:bH)⟩:aO).Batch with End:=r4.1}:bH)}:aO).Batch).End)then
  ((dl r4.2.2).bind fun r5=>
  some (({({(⟨kind,r1.1,r2.1,(0:Int),(⟨[],false,(0:Int)⟩:bH)⟩:aO)with Batch:=({(⟨kind,r1.1,r2.1,(0:Int),(⟨[],false,(0:Int)⟩:bH)⟩:aO).Batch with End:=r4.1}:bH)}:aO)with Batch:=({({(⟨kind,r1.1,r2.1,(0:Int),(⟨[],false,(0:Int)⟩:bH)⟩:aO)with Batch:=({(⟨kind,r1.1,r2.1,(0:Int),(⟨[],false,(0:Int)⟩:bH)⟩:aO).Batch with End:=r4.1}:bH)}:aO).Batch with Count:=r5.1}:bH)}:aO),r4.2.1,r5.2))
  else
  ((cV r4.2.1 r4.2.2).bind fun r6=>
  if r6 then
  ((il r4.2.1 r4.2.2).bind fun r7=>
  (mb r7).bind fun r8=>
  (fD r4.2.1 r4.2.2 r8.2.1 r8.2.2).bind fun r9=>
  jX ({({(⟨kind,r1.1,r2.1,(0:Int),(⟨[],false,(0:Int)⟩:bH)⟩:aO)with Batch:=({(⟨kind,r1.1,r2.1,(0:Int),(⟨[],false,(0:Int)⟩:bH)⟩:aO).Batch with End:=r4.1}:bH)}:aO)with Batch:=({({(⟨kind,r1.1,r2.1,(0:Int),(⟨[],false,(0:Int)⟩:bH)⟩:aO)with Batch:=({(⟨kind,r1.1,r2.1,(0:Int),(⟨[],false,(0:Int)⟩:bH)⟩:aO).Batch with End:=r4.1}:bH)}:aO).Batch with Rows:=r8.1}:bH)}:aO) r9.1 r9.2)
  else
  (jX ({(⟨kind,r1.1,r2.1,(0:Int),(⟨[],false,(0:Int)⟩:bH)⟩:aO)with Batch:=({(⟨kind,r1.1,r2.1,(0:Int),(⟨[],false,(0:Int)⟩:bH)⟩:aO).Batch with End:=r4.1}:bH)}:aO) r4.2.1 r4.2.2)))

def k8(r:aJ)(in1:ae):Option (ci×aJ×ae):=
  (aM r in1).bind fun r1=>
  (aM r r1.2).bind fun r2=>
  (aM r r2.2).bind fun r3=>
  (aM r r3.2).bind fun r4=>
  if(((⟨r1.1,r2.1,r3.1,r4.1,(0:Int),(0:Int),(⟨[]⟩:da),(⟨(0:Int),(0:Int),(0:Int),(0:Int),(⟨[],false,(0:Int)⟩:bH)⟩:aO),(0:Int)⟩:ci).Kind)==(1:Int))then
  ((aM r r4.2).bind fun r5=>
  (m9 r r5.2).bind fun r6=>
  some ((ci.mk (⟨r1.1,r2.1,r3.1,r4.1,(0:Int),(0:Int),(⟨[]⟩:da),(⟨(0:Int),(0:Int),(0:Int),(0:Int),(⟨[],false,(0:Int)⟩:bH)⟩:aO),(0:Int)⟩:ci).Kind (⟨r1.1,r2.1,r3.1,r4.1,(0:Int),(0:Int),(⟨[]⟩:da),(⟨(0:Int),(0:Int),(0:Int),(0:Int),(⟨[],false,(0:Int)⟩:bH)⟩:aO),(0:Int)⟩:ci).From (⟨r1.1,r2.1,r3.1,r4.1,(0:Int),(0:Int),(⟨[]⟩:da),(⟨(0:Int),(0:Int),(0:Int),(0:Int),(⟨[],false,(0:Int)⟩:bH)⟩:aO),(0:Int)⟩:ci).To (⟨r1.1,r2.1,r3.1,r4.1,(0:Int),(0:Int),(⟨[]⟩:da),(⟨(0:Int),(0:Int),(0:Int),(0:Int),(⟨[],false,(0:Int)⟩:bH)⟩:aO),(0:Int)⟩:ci).Epoch (⟨r1.1,r2.1,r3.1,r4.1,(0:Int),(0:Int),(⟨[]⟩:da),(⟨(0:Int),(0:Int),(0:Int),(0:Int),(⟨[],false,(0:Int)⟩:bH)⟩:aO),(0:Int)⟩:ci).Frag r5.1 r6.1 (⟨r1.1,r2.1,r3.1,r4.1,(0:Int),(0:Int),(⟨[]⟩:da),(⟨(0:Int),(0:Int),(0:Int),(0:Int),(⟨[],false,(0:Int)⟩:bH)⟩:aO),(0:Int)⟩:ci).Packet (⟨r1.1,r2.1,r3.1,r4.1,(0:Int),(0:Int),(⟨[]⟩:da),(⟨(0:Int),(0:Int),(0:Int),(0:Int),(⟨[],false,(0:Int)⟩:bH)⟩:aO),(0:Int)⟩:ci).Err),r6.2.1,r6.2.2))
  else
  (if(((⟨r1.1,r2.1,r3.1,r4.1,(0:Int),(0:Int),(⟨[]⟩:da),(⟨(0:Int),(0:Int),(0:Int),(0:Int),(⟨[],false,(0:Int)⟩:bH)⟩:aO),(0:Int)⟩:ci).Kind)==(3:Int))then
  ((aM r r4.2).bind fun r7=>
  (jP r r7.2 (1:Int)).bind fun r8=>
  some ((ci.mk (⟨r1.1,r2.1,r3.1,r4.1,(0:Int),(0:Int),(⟨[]⟩:da),(⟨(0:Int),(0:Int),(0:Int),(0:Int),(⟨[],false,(0:Int)⟩:bH)⟩:aO),(0:Int)⟩:ci).Kind (⟨r1.1,r2.1,r3.1,r4.1,(0:Int),(0:Int),(⟨[]⟩:da),(⟨(0:Int),(0:Int),(0:Int),(0:Int),(⟨[],false,(0:Int)⟩:bH)⟩:aO),(0:Int)⟩:ci).From (⟨r1.1,r2.1,r3.1,r4.1,(0:Int),(0:Int),(⟨[]⟩:da),(⟨(0:Int),(0:Int),(0:Int),(0:Int),(⟨[],false,(0:Int)⟩:bH)⟩:aO),(0:Int)⟩:ci).To (⟨r1.1,r2.1,r3.1,r4.1,(0:Int),(0:Int),(⟨[]⟩:da),(⟨(0:Int),(0:Int),(0:Int),(0:Int),(⟨[],false,(0:Int)⟩:bH)⟩:aO),(0:Int)⟩:ci).Epoch r7.1 (⟨r1.1,r2.1,r3.1,r4.1,(0:Int),(0:Int),(⟨[]⟩:da),(⟨(0:Int),(0:Int),(0:Int),(0:Int),(⟨[],false,(0:Int)⟩:bH)⟩:aO),(0:Int)⟩:ci).Sites (⟨r1.1,r2.1,r3.1,r4.1,(0:Int),(0:Int),(⟨[]⟩:da),(⟨(0:Int),(0:Int),(0:Int),(0:Int),(⟨[],false,(0:Int)⟩:bH)⟩:aO),(0:Int)⟩:ci).Plan r8.1 (⟨r1.1,r2.1,r3.1,r4.1,(0:Int),(0:Int),(⟨[]⟩:da),(⟨(0:Int),(0:Int),(0:Int),(0:Int),(⟨[],false,(0:Int)⟩:bH)⟩:aO),(0:Int)⟩:ci).Err),r8.2.1,r8.2.2))
  else
  (if(((⟨r1.1,r2.1,r3.1,r4.1,(0:Int),(0:Int),(⟨[]⟩:da),(⟨(0:Int),(0:Int),(0:Int),(0:Int),(⟨[],false,(0:Int)⟩:bH)⟩:aO),(0:Int)⟩:ci).Kind)==(4:Int))then
  ((aM r r4.2).bind fun r9=>
  (jP r r9.2 (2:Int)).bind fun r10=>
  some ((ci.mk (⟨r1.1,r2.1,r3.1,r4.1,(0:Int),(0:Int),(⟨[]⟩:da),(⟨(0:Int),(0:Int),(0:Int),(0:Int),(⟨[],false,(0:Int)⟩:bH)⟩:aO),(0:Int)⟩:ci).Kind (⟨r1.1,r2.1,r3.1,r4.1,(0:Int),(0:Int),(⟨[]⟩:da),(⟨(0:Int),(0:Int),(0:Int),(0:Int),(⟨[],false,(0:Int)⟩:bH)⟩:aO),(0:Int)⟩:ci).From (⟨r1.1,r2.1,r3.1,r4.1,(0:Int),(0:Int),(⟨[]⟩:da),(⟨(0:Int),(0:Int),(0:Int),(0:Int),(⟨[],false,(0:Int)⟩:bH)⟩:aO),(0:Int)⟩:ci).To (⟨r1.1,r2.1,r3.1,r4.1,(0:Int),(0:Int),(⟨[]⟩:da),(⟨(0:Int),(0:Int),(0:Int),(0:Int),(⟨[],false,(0:Int)⟩:bH)⟩:aO),(0:Int)⟩:ci).Epoch r9.1 (⟨r1.1,r2.1,r3.1,r4.1,(0:Int),(0:Int),(⟨[]⟩:da),(⟨(0:Int),(0:Int),(0:Int),(0:Int),(⟨[],false,(0:Int)⟩:bH)⟩:aO),(0:Int)⟩:ci).Sites (⟨r1.1,r2.1,r3.1,r4.1,(0:Int),(0:Int),(⟨[]⟩:da),(⟨(0:Int),(0:Int),(0:Int),(0:Int),(⟨[],false,(0:Int)⟩:bH)⟩:aO),(0:Int)⟩:ci).Plan r10.1 (⟨r1.1,r2.1,r3.1,r4.1,(0:Int),(0:Int),(⟨[]⟩:da),(⟨(0:Int),(0:Int),(0:Int),(0:Int),(⟨[],false,(0:Int)⟩:bH)⟩:aO),(0:Int)⟩:ci).Err),r10.2.1,r10.2.2))
  else
  (if(((⟨r1.1,r2.1,r3.1,r4.1,(0:Int),(0:Int),(⟨[]⟩:da),(⟨(0:Int),(0:Int),(0:Int),(0:Int),(⟨[],false,(0:Int)⟩:bH)⟩:aO),(0:Int)⟩:ci).Kind)==(5:Int))then
  ((eN r r4.2).bind fun r11=>
  if r11.1 then
  (some ((ci.mk (⟨r1.1,r2.1,r3.1,r4.1,(0:Int),(0:Int),(⟨[]⟩:da),(⟨(0:Int),(0:Int),(0:Int),(0:Int),(⟨[],false,(0:Int)⟩:bH)⟩:aO),(0:Int)⟩:ci).Kind (⟨r1.1,r2.1,r3.1,r4.1,(0:Int),(0:Int),(⟨[]⟩:da),(⟨(0:Int),(0:Int),(0:Int),(0:Int),(⟨[],false,(0:Int)⟩:bH)⟩:aO),(0:Int)⟩:ci).From (⟨r1.1,r2.1,r3.1,r4.1,(0:Int),(0:Int),(⟨[]⟩:da),(⟨(0:Int),(0:Int),(0:Int),(0:Int),(⟨[],false,(0:Int)⟩:bH)⟩:aO),(0:Int)⟩:ci).To (⟨r1.1,r2.1,r3.1,r4.1,(0:Int),(0:Int),(⟨[]⟩:da),(⟨(0:Int),(0:Int),(0:Int),(0:Int),(⟨[],false,(0:Int)⟩:bH)⟩:aO),(0:Int)⟩:ci).Epoch (⟨r1.1,r2.1,r3.1,r4.1,(0:Int),(0:Int),(⟨[]⟩:da),(⟨(0:Int),(0:Int),(0:Int),(0:Int),(⟨[],false,(0:Int)⟩:bH)⟩:aO),(0:Int)⟩:ci).Frag (⟨r1.1,r2.1,r3.1,r4.1,(0:Int),(0:Int),(⟨[]⟩:da),(⟨(0:Int),(0:Int),(0:Int),(0:Int),(⟨[],false,(0:Int)⟩:bH)⟩:aO),(0:Int)⟩:ci).Sites (⟨r1.1,r2.1,r3.1,r4.1,(0:Int),(0:Int),(⟨[]⟩:da),(⟨(0:Int),(0:Int),(0:Int),(0:Int),(⟨[],false,(0:Int)⟩:bH)⟩:aO),(0:Int)⟩:ci).Plan (⟨r1.1,r2.1,r3.1,r4.1,(0:Int),(0:Int),(⟨[]⟩:da),(⟨(0:Int),(0:Int),(0:Int),(0:Int),(⟨[],false,(0:Int)⟩:bH)⟩:aO),(0:Int)⟩:ci).Packet (300:Int)),r11.2.1,r11.2.2))
  else
  (some ((ci.mk (⟨r1.1,r2.1,r3.1,r4.1,(0:Int),(0:Int),(⟨[]⟩:da),(⟨(0:Int),(0:Int),(0:Int),(0:Int),(⟨[],false,(0:Int)⟩:bH)⟩:aO),(0:Int)⟩:ci).Kind (⟨r1.1,r2.1,r3.1,r4.1,(0:Int),(0:Int),(⟨[]⟩:da),(⟨(0:Int),(0:Int),(0:Int),(0:Int),(⟨[],false,(0:Int)⟩:bH)⟩:aO),(0:Int)⟩:ci).From (⟨r1.1,r2.1,r3.1,r4.1,(0:Int),(0:Int),(⟨[]⟩:da),(⟨(0:Int),(0:Int),(0:Int),(0:Int),(⟨[],false,(0:Int)⟩:bH)⟩:aO),(0:Int)⟩:ci).To (⟨r1.1,r2.1,r3.1,r4.1,(0:Int),(0:Int),(⟨[]⟩:da),(⟨(0:Int),(0:Int),(0:Int),(0:Int),(⟨[],false,(0:Int)⟩:bH)⟩:aO),(0:Int)⟩:ci).Epoch (⟨r1.1,r2.1,r3.1,r4.1,(0:Int),(0:Int),(⟨[]⟩:da),(⟨(0:Int),(0:Int),(0:Int),(0:Int),(⟨[],false,(0:Int)⟩:bH)⟩:aO),(0:Int)⟩:ci).Frag (⟨r1.1,r2.1,r3.1,r4.1,(0:Int),(0:Int),(⟨[]⟩:da),(⟨(0:Int),(0:Int),(0:Int),(0:Int),(⟨[],false,(0:Int)⟩:bH)⟩:aO),(0:Int)⟩:ci).Sites (⟨r1.1,r2.1,r3.1,r4.1,(0:Int),(0:Int),(⟨[]⟩:da),(⟨(0:Int),(0:Int),(0:Int),(0:Int),(⟨[],false,(0:Int)⟩:bH)⟩:aO),(0:Int)⟩:ci).Plan (⟨r1.1,r2.1,r3.1,r4.1,(0:Int),(0:Int),(⟨[]⟩:da),(⟨(0:Int),(0:Int),(0:Int),(0:Int),(⟨[],false,(0:Int)⟩:bH)⟩:aO),(0:Int)⟩:ci).Packet (140:Int)),r11.2.1,r11.2.2)))
  else
  (some ((⟨r1.1,r2.1,r3.1,r4.1,(0:Int),(0:Int),(⟨[]⟩:da),(⟨(0:Int),(0:Int),(0:Int),(0:Int),(⟨[],false,(0:Int)⟩:bH)⟩:aO),(0:Int)⟩:ci),r,r4.2)))))

def ru(b:(List Int)):Option (ci×Int):=
  (qi b).bind fun r=>
  if(r.2 !=(0:Int))then
  (some ((⟨(0:Int),(0:Int),(0:Int),(0:Int),(0:Int),(0:Int),(⟨[]⟩:da),(⟨(0:Int),(0:Int),(0:Int),(0:Int),(⟨[],false,(0:Int)⟩:bH)⟩:aO),(0:Int)⟩:ci),r.2))
  else
  ((uS r.1).bind fun r1=>
  (k8 r1.1 r1.2).bind fun r2=>
  (iV r2.2.1 r2.2.2).bind fun r3=>
  (if(!(!r3))then((ml r2.1).bind fun r4=>
  some (!r4))else some true).bind fun t=>
  if(t||(decide ((20000:Int)<(b.length:Int))))then
  (some ((⟨(0:Int),(0:Int),(0:Int),(0:Int),(0:Int),(0:Int),(⟨[]⟩:da),(⟨(0:Int),(0:Int),(0:Int),(0:Int),(⟨[],false,(0:Int)⟩:bH)⟩:aO),(0:Int)⟩:ci),(331:Int)))
  else
  (some (r2.1,(0:Int))))

def m7(b:(List Int)):Option Bool:=
  (wn).bind fun r=>
  if(!r)then
  (some false)
  else
  (if(decide ((5000:Int)<(b.length:Int)))then
  (some true)
  else
  ((jh ([]:List Int) b).bind fun l1=>
  (mq l1).bind fun r1=>
  (ru r1).bind fun r2=>
  if(r2.2 !=(0:Int))then
  (some ((r2.2==(331:Int))&&(r2.1.Kind==(0:Int))))
  else
  ((oc r2.1).bind fun r3=>
  (if(r3.2==(0:Int))then((lc r1 r3.1).bind fun r4=>
  some r4)else some false).bind fun t=>
  some t)))


end Go.Proofs.YtdohlidddcgfjaaGreat

