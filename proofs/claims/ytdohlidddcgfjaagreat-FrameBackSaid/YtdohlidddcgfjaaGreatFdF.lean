/- bT of this claim: F. -/
import Derived.Test.YtdohlidddcgfjaaGreatFdD
import Derived.Test.YtdohlidddcgfjaaGreatFdV4
set_option linter.all false
namespace Go.Proofs.YtdohlidddcgfjaaGreat
open Go

def vK(nx1:Int->(List Int)->Option (List Int))(n2:Int):Nat->Int->(List Int)->Option (List Int)
  |0,_,_=>none
  |n4+1,x,out2=>
    if(decide (x<n2))then
    ((gR out2 n2).bind fun e4=>
    (gR out2 x).bind fun e5=>
    (gR out2 (IntKind.i64.wrap (n2+x))).bind fun e6=>
    (some (out2.set (IntKind.i64.wrap (n2+x)).toNat (qR .xor .u32 e4 e5))).bind fun ar3=>
    (vK nx1 n2 n4) (IntKind.i64.wrap (x+(1:Int))) ar3)
    else
    (nx1 (IntKind.i64.wrap (n2*(2:Int))) out2)

def sy:Nat->Int->(List Int)->Option (List Int)
 |0,_,_=>none
 |n3+1,n2,out1=>
  if(decide (n2<(256:Int)))then
  (vK (sy n3) n2 fh (0:Int) out1)
  else
  (some out1)

def sC:Nat->Int->(List Int)->Option (List Int)
  |0,_,_=>none
  |n1+1,n,out=>
    if(decide ((0:Int)<n))then
    ((gR out (IntKind.i64.wrap ((2:Int)*n))).bind fun e1=>
    (gR out n).bind fun e2=>
    (some (out.set n.toNat ((e1).fdiv (2^(min (Int.toNat (1:Int)) IntKind.u32.bits))))).bind fun ar1=>
    if((qR .and .u32 e1 (1:Int))==(1:Int))then
    ((gR ar1 n).bind fun e3=>
    (some (ar1.set n.toNat (qR .xor .u32 e3 (2197175160:Int)))).bind fun ar2=>
    (sC n1) (IntKind.i64.wrap ((n).tdiv (2:Int))) ar2)
    else
    ((sC n1) (IntKind.i64.wrap ((n).tdiv (2:Int))) ar1))
    else
    (sy fh (2:Int) out)

def BJ:Option (List Int):=
 (gR (List.replicate 256 (0:Int)) (128:Int)).bind fun e=>
 (some ((List.replicate 256 (0:Int)).set (128:Int).toNat (2197175160:Int))).bind fun ar=>
 sC fh (64:Int) ar

def ud(register:Int)(wJ:(List Int))(c:Int):Option Int:=
 (gR wJ (qR .xor .u8 (IntKind.u8.wrap register) c)).bind fun e=>
 some (qR .xor .u32 ((register).fdiv (2^(min (Int.toNat (8:Int)) IntKind.u32.bits))) e)

def oO(r:(List Int)):List Int->Int->Option Int
 |[],register=>
  some (qR .xor .u32 (if IntKind.u32.signed then -1 else IntKind.u32.max) register)
 |e::tl,register=>
  (ud register r e).bind fun r1=>
  (oO r tl) r1

def yp(b:(List Int)):Option Int:=
 (BJ).bind fun r=>
 oO r b (4294967295:Int)

def oH(b:(List Int)):Option (List Int):=
 (app ([]:List Int) b).bind fun x=>
 some x

def nj:Nat->(List Int)->Int->Option (List Int)
 |0,out,n=>
  some out
 |k1+1,out,n=>
  (app out ([(IntKind.u8.wrap n)])).bind fun out1=>
  (nj k1) out1 ((n).fdiv (2^(min (Int.toNat (8:Int)) IntKind.u32.bits)))

def nY(b:(List Int)):Option (List Int):=
 (yp b).bind fun r=>
 (oH b).bind fun r1=>
 nj 4 r1 r

def nt(n:Int):Option Bool:=
 some ((decide ((0:Int)<=n))&&(decide (n<=(8:Int))))

def b8(s2:(List (List am)))(eq:((List am)->(List am)->Option Bool)):List (List am)->Nat->Option Bool
 |[],i=>
  some true
 |e::tl,i=>
  (gR s2 (i:Int)).bind fun e1=>
  (eq e e1).bind fun r=>
  if(!r)then
  (some false)
  else
  ((b8 s2 eq tl) (i+1))

def cn(s1:(List (List am)))(s2:(List (List am)))(eq:((List am)->(List am)->Option Bool)):Option Bool:=
 if((s1.length:Int) !=(s2.length:Int))then
 (some false)
 else
 (b8 s2 eq s1 0)

def dC(s2:(List am)):List am->Nat->Option Bool
 |[],i=>
  some true
 |e::tl,i=>
  (gR s2 (i:Int)).bind fun e1=>
  if(!decide (e=e1))then
  (some false)
  else
  ((dC s2 tl) (i+1))

def dR(s1:(List am))(s2:(List am)):Option Bool:=
 if((s1.length:Int) !=(s2.length:Int))then
 (some false)
 else
 (dC s2 s1 0)

def pU(p:(List am))(y:(List am)):Option Bool:=
 (dR p y).bind fun r=>
 some r

def o0(a1:aI)(b:aI):Option Bool:=
 (cn a1.Batch.Rows b.Batch.Rows pU).bind fun r=>
 some (((((((a1.Kind==b.Kind)&&(a1.Session==b.Session))&&(a1.Seq==b.Seq))&&(a1.Limit==b.Limit))&&(a1.Batch.End==b.Batch.End))&&(a1.Batch.Count==b.Batch.Count))&&r)

def jY(s2:(List Int)):List Int->Nat->Option Bool
 |[],i=>
  some true
 |e::tl,i=>
  (gR s2 (i:Int)).bind fun e1=>
  if(e !=e1)then
  (some false)
  else
  ((jY s2 tl) (i+1))

def il(s1:(List Int))(s2:(List Int)):Option Bool:=
 if((s1.length:Int) !=(s2.length:Int))then
 (some false)
 else
 (jY s2 s1 0)

def gj(s2:(List kg)):List kg->Nat->Option Bool
 |[],i=>
  some true
 |e::tl,i=>
  (gR s2 (i:Int)).bind fun e1=>
  if(!decide (e=e1))then
  (some false)
  else
  ((gj s2 tl) (i+1))

def hM(s1:(List kg))(s2:(List kg)):Option Bool:=
 if((s1.length:Int) !=(s2.length:Int))then
 (some false)
 else
 (gj s2 s1 0)

def fa(s2:(List ap)):List ap->Nat->Option Bool
 |[],i=>
  some true
 |e::tl,i=>
  (gR s2 (i:Int)).bind fun e1=>
  if(!decide (e=e1))then
  (some false)
  else
  ((fa s2 tl) (i+1))

def fV(s1:(List ap))(s2:(List ap)):Option Bool:=
 if((s1.length:Int) !=(s2.length:Int))then
 (some false)
 else
 (fa s2 s1 0)

def sX(a1:aP)(b:aP):Option Bool:=
 (fV a1.Nodes b.Nodes).bind fun r=>
 some r

def py(p:eS)(q:eS):Option Bool:=
  (if(p.Tag==q.Tag)then((sX p.Arg q.Arg).bind fun r=>
  some r)else some false).bind fun t=>
  some t

def da(s2:(List eS))(eq:(eS->eS->Option Bool)):List eS->Nat->Option Bool
 |[],i=>
  some true
 |e::tl,i=>
  (gR s2 (i:Int)).bind fun e1=>
  (eq e e1).bind fun r=>
  if(!r)then
  (some false)
  else
  ((da s2 eq tl) (i+1))

def dp(s1:(List eS))(s2:(List eS))(eq:(eS->eS->Option Bool)):Option Bool:=
 if((s1.length:Int) !=(s2.length:Int))then
 (some false)
 else
 (da s2 eq s1 0)

def cR(s2:(List aP))(eq:(aP->aP->Option Bool)):List aP->Nat->Option Bool
 |[],i=>
  some true
 |e::tl,i=>
  (gR s2 (i:Int)).bind fun e1=>
  (eq e e1).bind fun r=>
  if(!r)then
  (some false)
  else
  ((cR s2 eq tl) (i+1))

def cX(s1:(List aP))(s2:(List aP))(eq:(aP->aP->Option Bool)):Option Bool:=
 if((s1.length:Int) !=(s2.length:Int))then
 (some false)
 else
 (cR s2 eq s1 0)

def oh(p:aa)(y:aa):Option Bool:=
  (if((((((p.Op==y.Op)&&(p.A==y.A))&&(p.B==y.B))&&(p.Table==y.Table))&&(p.Left==y.Left))&&(p.Limit==y.Limit))then((il p.Kinds y.Kinds).bind fun r=>
  some r)else some false).bind fun t=>
  (if t then((il p.Keys y.Keys).bind fun r1=>
  some r1)else some false).bind fun t1=>
  (if t1 then((hM p.Order y.Order).bind fun r2=>
  some r2)else some false).bind fun t2=>
  (if t2 then((sX p.Cond y.Cond).bind fun r3=>
  some r3)else some false).bind fun t3=>
  (if t3 then((dp p.Aggs y.Aggs py).bind fun r4=>
  some r4)else some false).bind fun t4=>
  (if t4 then((cX p.Items y.Items sX).bind fun r5=>
  some r5)else some false).bind fun t5=>
  some t5

def cQ(s2:(List di))(eq:(di->di->Option Bool)):List di->Nat->Option Bool
 |[],i=>
  some true
 |e::tl,i=>
  (gR s2 (i:Int)).bind fun e1=>
  (eq e e1).bind fun r=>
  if(!r)then
  (some false)
  else
  ((cQ s2 eq tl) (i+1))

def cW(s1:(List di))(s2:(List di))(eq:(di->di->Option Bool)):Option Bool:=
 if((s1.length:Int) !=(s2.length:Int))then
 (some false)
 else
 (cQ s2 eq s1 0)

def cJ(s2:(List aa))(eq:(aa->aa->Option Bool)):List aa->Nat->Option Bool
 |[],i=>
  some true
 |e::tl,i=>
  (gR s2 (i:Int)).bind fun e1=>
  (eq e e1).bind fun r=>
  if(!r)then
  (some false)
  else
  ((cJ s2 eq tl) (i+1))

def cN(s1:(List aa))(s2:(List aa))(eq:(aa->aa->Option Bool)):Option Bool:=
 if((s1.length:Int) !=(s2.length:Int))then
 (some false)
 else
 (cJ s2 eq s1 0)

def rY(node:(aa->aa->Option Bool))(p:di)(y:di):Option Bool:=
  (if((p.At==y.At)&&(p.Way==y.Way))then((il p.Cols y.Cols).bind fun r=>
  some r)else some false).bind fun t=>
  (if t then((cN p.Nodes y.Nodes node).bind fun r1=>
  some r1)else some false).bind fun t1=>
  some t1

def yy(a1:cT)(b:cT):Option Bool:=
 (cW a1.Frags b.Frags (rY oh)).bind fun r=>
 some r

def m1(a1:bR)(b:bR):Option Bool:=
  (if((decide (([a1.Kind,a1.From,a1.To,a1.Epoch,a1.Frag,a1.Sites])=([b.Kind,b.From,b.To,b.Epoch,b.Frag,b.Sites])))&&(a1.Err==b.Err))then((o0 a1.Packet b.Packet).bind fun r=>
  some r)else some false).bind fun t=>
  (if t then((yy a1.Plan b.Plan).bind fun r1=>
  some r1)else some false).bind fun t1=>
  some t1

def qJ(m:bR)(x:Bool):Option Bool:=
  if x then
  ((m1 (bR.mk (0:Int) (0:Int) (0:Int) (0:Int) (0:Int) m.Sites m.Plan (⟨(0:Int),(0:Int),(0:Int),(0:Int),(⟨[],false,(0:Int)⟩:bI)⟩:aI) m.Err) (⟨(0:Int),(0:Int),(0:Int),(0:Int),(0:Int),(0:Int),(⟨[]⟩:cT),(⟨(0:Int),(0:Int),(0:Int),(0:Int),(⟨[],false,(0:Int)⟩:bI)⟩:aI),(0:Int)⟩:bR)).bind fun r1=>
  some r1)
  else
  (if(m.Kind==(5:Int))then
  ((m1 (bR.mk (0:Int) (0:Int) (0:Int) (0:Int) m.Frag m.Sites m.Plan m.Packet (0:Int)) (⟨(0:Int),(0:Int),(0:Int),(0:Int),(0:Int),(0:Int),(⟨[]⟩:cT),(⟨(0:Int),(0:Int),(0:Int),(0:Int),(⟨[],false,(0:Int)⟩:bI)⟩:aI),(0:Int)⟩:bR)).bind fun r2=>
  some r2)
  else
  ((m1 (bR.mk (0:Int) (0:Int) (0:Int) (0:Int) m.Frag m.Sites m.Plan m.Packet m.Err) (⟨(0:Int),(0:Int),(0:Int),(0:Int),(0:Int),(0:Int),(⟨[]⟩:cT),(⟨(0:Int),(0:Int),(0:Int),(0:Int),(⟨[],false,(0:Int)⟩:bI)⟩:aI),(0:Int)⟩:bR)).bind fun r3=>
  some r3))

def uq(m:bR):Option Bool:=
  if(m.Kind==(1:Int))then
  ((m1 (bR.mk (0:Int) (0:Int) (0:Int) (0:Int) m.Frag (0:Int) (⟨[]⟩:cT) m.Packet m.Err) (⟨(0:Int),(0:Int),(0:Int),(0:Int),(0:Int),(0:Int),(⟨[]⟩:cT),(⟨(0:Int),(0:Int),(0:Int),(0:Int),(⟨[],false,(0:Int)⟩:bI)⟩:aI),(0:Int)⟩:bR)).bind fun r=>
  some r)
  else
  (if(m.Kind==(3:Int))then
  (qJ m (m.Kind==(3:Int)))
  else
  (qJ m (m.Kind==(4:Int))))

def qL(c:Int):Option Bool:=
 some ((decide (c<(0:Int)))||(decide ((16:Int)<=c)))

def fU(f:(Int->Option Bool)):List Int->Nat->Option Int
 |[],i=>
  some (-1:Int)
 |e::tl,i=>
  (f e).bind fun r=>
  if r then
  (some (i:Int))
  else
  ((fU f tl) (i+1))

def lT(ae:(List Int))(f:(Int->Option Bool)):Option Int:=
 fU f ae 0

def eM(ae:(List Int))(f:(Int->Option Bool)):Option Bool:=
 (lT ae f).bind fun r=>
 some (decide ((0:Int)<=r))

def oU(k:Int):Option Bool:=
 some ((decide (k<(1:Int)))||(decide ((3:Int)<k)))

def jR(l:al):Option (Bool×al):=
 (eM ((({l with result:=l.n.Kinds}:al).n).Kinds) oU).bind fun r=>
 some ((((((!r)&&(decide ((0:Int)<=((({l with result:=l.n.Kinds}:al).n).Table))))&&(decide (((({l with result:=l.n.Kinds}:al).n).Table)<(4:Int))))&&(decide ((0:Int)<(((({l with result:=l.n.Kinds}:al).n).Kinds).length:Int))))&&(decide ((((({l with result:=l.n.Kinds}:al).n).Kinds).length:Int)<=(4:Int)))),({l with result:=l.n.Kinds}:al))

def nL(k:Int):Option Bool:=
 some ((decide (k<(0:Int)))||(decide ((4:Int)<k)))

def hT(l:al):Option (Bool×al):=
 (eM ((({l with result:=l.n.Kinds}:al).n).Kinds) nL).bind fun r=>
 some ((((((!r)&&(decide ((0:Int)<=((({l with result:=l.n.Kinds}:al).n).Table))))&&(decide (((({l with result:=l.n.Kinds}:al).n).Table)<(30:Int))))&&(decide ((0:Int)<(((({l with result:=l.n.Kinds}:al).n).Kinds).length:Int))))&&(decide ((((({l with result:=l.n.Kinds}:al).n).Kinds).length:Int)<=(16:Int)))),({l with result:=l.n.Kinds}:al))

def mW(ae:List Int):Option (List Int):=
 some ae

def mX(n:Int):Option (List Int):=
  if(decide ((0:Int)<(IntKind.i64.wrap (n-(IntKind.i64.wrap ((0:Int)-(0:Int)))))))then
  ((gt0 (IntKind.i64.wrap (n-(IntKind.i64.wrap ((0:Int)-(0:Int)))))).bind fun _=>
  (vI (IntKind.i64.wrap (n-(IntKind.i64.wrap ((0:Int)-(0:Int))))) (0:Int)).bind fun mk=>
  (dV mk 0 (0:Int)).bind fun y=>
  mW y)
  else
  (mW ([]:List Int))

def mg(n:Int):Option (List Int):=
 if(decide (n<(0:Int)))then
 (none)
 else
 (mX n)

def jA:List (List Int)->(List Int)->Option (List Int)
 |[],newslice=>
  some newslice
 |e1::tl1,newslice=>
  (app newslice e1).bind fun newslice1=>
  (jA tl1) newslice1

def jB(slices:(List (List Int))):List (List Int)->Int->Option (List Int)
 |[],size=>
  (mg size).bind fun r=>
  jA slices r
 |e::tl,size=>
  if(decide ((IntKind.i64.wrap (size+(e.length:Int)))<(0:Int)))then
  (none)
  else
  ((jB slices tl) (IntKind.i64.wrap (size+(e.length:Int))))

def ji(slices:(List (List Int))):Option (List Int):=
 jB slices slices (0:Int)

def rr(tag:Int):Option Int:=
  if((tag==(1:Int))||(tag==(2:Int)))then
  (some (0:Int))
  else
  (if((decide ((4:Int)<=tag))&&(decide (tag<=(7:Int))))then
  (some (1:Int))
  else
  (if((decide ((12:Int)<=tag))&&(decide (tag<=(23:Int))))then
  (some (2:Int))
  else
  (some (-1:Int))))

def kW(v1:am):Option am:=
 some v1

def qw(v2:am):Option am:=
 kW (am.mk (0:Int) v2.N v2.U v2.S)

def qv(v:am):Option am:=
 qw (am.mk v.Kind (0:Int) v.U v.S)

def qu(v3:am):Option am:=
 kW v3

def xh(v:am):Option am:=
  if(v.Kind==(1:Int))then
  (if((v.N !=(0:Int))&&(v.N !=(1:Int)))then
  (kW v)
  else
  (qv v))
  else
  (if(v.Kind==(2:Int))then
  (qv v)
  else
  (if(v.Kind==(0:Int))then
  (qw v)
  else
  (if(v.Kind==(3:Int))then
  (if(decide ((v.S.length:Int)<=(40:Int)))then
  (qu (am.mk (0:Int) v.N v.U ([])))
  else
  (qu v))
  else
  (if(v.Kind==(4:Int))then
  (kW (am.mk (0:Int) (0:Int) (0:Int) v.S))
  else
  (kW v)))))

def ii(v:am):Option Int:=
 (xh v).bind fun r=>
 if(!decide (r=(⟨(0:Int),(0:Int),(0:Int),[]⟩:am)))then
 (some (120:Int))
 else
 (some (0:Int))

def ub(v:am):Option Bool:=
 (ii v).bind fun r=>
 some ((r==(0:Int))&&(v.Kind !=(4:Int)))

def uA(n:ap):Option Bool:=
  if(n.Tag==(1:Int))then
  ((ub n.Value).bind fun r=>
  some (r&&(n.Col==(0:Int))))
  else
  (if(n.Tag==(2:Int))then
  (some (((decide (n.Value=(⟨(0:Int),(0:Int),(0:Int),[]⟩:am)))&&(decide ((0:Int)<=n.Col)))&&(decide (n.Col<(16:Int)))))
  else
  (some ((decide (n.Value=(⟨(0:Int),(0:Int),(0:Int),[]⟩:am)))&&(n.Col==(0:Int)))))

def mL(nx:Nat->(List Int)->(List Int)->Option ((List Int)×Bool))(i:Nat)(e1:ap)(all:List Int)(open1:List Int)(r:Int):List Int->Nat->Int->(List Int)->Option ((List Int)×Bool)
  |[],i1,first,at1=>
    if(!decide (at1=([e1.L,e1.R])))then
    (some ([],false))
    else
    ((app all ([first])).bind fun all1=>
    (dV open1 0 (IntKind.i64.wrap ((open1.length:Int)-r))).bind fun y1=>
    (app y1 ([(i:Int)])).bind fun open2=>
    nx (i+1) all1 open2)
  |e2::tl1,i1,first,at1=>
    (gR all e2).bind fun e3=>
    (gR at1 (i1:Int)).bind fun e4=>
    (some (at1.set (i1:Int).toNat e2)).bind fun ar=>
    (mL nx i e1 all open1 r tl1) (i1+1) (min first e3) ar

def lj:List ap->Nat->(List Int)->(List Int)->Option ((List Int)×Bool)
  |[],i,all,open1=>
    some (all,(((open1.length:Int)==(1:Int))&&(decide ((all.length:Int)<=(1000:Int)))))
  |e1::tl,i,all,open1=>
    (rr e1.Tag).bind fun r=>
    (if(!((decide (r<(0:Int)))||(decide ((open1.length:Int)<r))))then((uA e1).bind fun r1=>
    some (!r1))else some true).bind fun t=>
    if t then
    (some ([],false))
    else
    ((dV open1 (IntKind.i64.wrap ((open1.length:Int)-r)) (open1.length:Int)).bind fun y=>
    mL (lj tl) i e1 all open1 r y 0 (i:Int) ([(-1:Int),(-1:Int)]))

def xZ(e:aP):Option ((List Int)×Bool):=
 lj e.Nodes 0 ([]:List Int) ([]:List Int)

def tG(e:aP):Option Int:=
 (xZ e).bind fun r=>
 if(!r.2)then
 (some (200:Int))
 else
 (some (0:Int))

def ej(i:Nat)(y:List Int):Nat->Nat->(List Int)->Int->Option (List Int)
  |0,i1,s1,k=>
    (dV s1 k (s1.length:Int)).bind fun y1=>
    (some (s1.take k.toNat++List.replicate y1.length (0:Int))).bind fun cl=>
    (dV cl 0 k).bind fun y2=>
    some y2
  |k2+1,i1,s1,k=>
    (FT s1 (i:Int) y.length (i1:Int)).bind fun e3=>
    (FT s1 (i:Int) y.length (IntKind.i64.wrap ((i1:Int)-(1:Int)))).bind fun e4=>
    if(e3 !=e4)then
    ((FT s1 (i:Int) y.length (i1:Int)).bind fun e5=>
    (gR s1 k).bind fun e6=>
    (some (s1.set k.toNat e5)).bind fun st=>
    (ej i y k2) (i1+1) st (IntKind.i64.wrap (k+(1:Int))))
    else
    ((ej i y k2) (i1+1) s1 k)

def fy(ae:(List Int)):List Int->Nat->Option (List Int)
  |[],i=>
    some ae
  |e::tl,i=>
    (gR ae (IntKind.i64.wrap ((i:Int)-(1:Int)))).bind fun e1=>
    if(e==e1)then
    ((dV ae (i:Int) (ae.length:Int)).bind fun y=>
    ej i y (y.length-1) 1 ae (i:Int))
    else
    ((fy ae tl) (i+1))

def ky(ae:(List Int)):Option (List Int):=
 if(decide ((ae.length:Int)<(2:Int)))then
 (some ae)
 else
 (fy ae (ae.drop (1)) 1)

def m5:List ap->(List Int)->Option (List Int)
  |[],out=>
    (D1 out).bind fun srt=>
    (ky srt).bind fun r1=>
    some r1
  |e1::tl,out=>
    if(e1.Tag==(2:Int))then
    ((app out ([e1.Col])).bind fun out1=>
    (m5 tl) out1)
    else
    ((m5 tl) out)

def vt(e:aP):Option (List Int):=
 (tG e).bind fun r=>
 if(r !=(0:Int))then
 (some ([]:List Int))
 else
 (m5 e.Nodes ([]:List Int))

def dO(ae:(List Int)):Option (List Int):=
 (app ([]:List Int) ae).bind fun x=>
 some x

def pI(stack:(List Int))(k:Int):Option ((List Int)×(List Int)):=
 (dV stack (IntKind.i64.wrap ((stack.length:Int)-k)) (stack.length:Int)).bind fun y=>
 (dO y).bind fun r=>
 (dV stack 0 (IntKind.i64.wrap ((stack.length:Int)-k))).bind fun y1=>
 some (r,y1)

def mK(bad:Int)(stack:List Int):Option (Int×Int):=
  if(bad !=(0:Int))then
  (some ((0:Int),bad))
  else
  ((gR stack (0:Int)).bind fun e1=>
  some (e1,(0:Int)))

def ir(do1:(ap->(List Int)->Option (Int×Int))):List ap->Int->(List Int)->Option (Int×Int)
  |[],bad1,stack1=>
    mK bad1 stack1
  |e2::tl,bad1,stack1=>
    (rr e2.Tag).bind fun r=>
    (pI stack1 r).bind fun r1=>
    (do1 e2 r1.1).bind fun r2=>
    if(r2.2 !=(0:Int))then
    (mK r2.2 r1.2)
    else
    ((app r1.2 ([r2.1])).bind fun l2=>
    (ir do1 tl) bad1 l2)

def pA(e:aP)(do1:(ap->(List Int)->Option (Int×Int))):Option (Int×Int):=
 ir do1 e.Nodes (0:Int) ([]:List Int)

def wP(tag:Int):Option Bool:=
 some ((tag==(4:Int))||((decide ((12:Int)<=tag))&&(decide (tag<=(15:Int)))))

def mM(kinds:(List Int))(n:ap):List Int->Int->Option (Int×Int)
  |[],own=>
    if(n.Tag==(1:Int))then
    (some (n.Value.Kind,(0:Int)))
    else
    (if(n.Tag==(2:Int))then
    ((gR kinds n.Col).bind fun e1=>
    some (e1,(0:Int)))
    else
    ((wP n.Tag).bind fun r=>
    if r then
    (if((own==(-1:Int))||((own !=(0:Int))&&(own !=(2:Int))))then
    (some ((0:Int),(201:Int)))
    else
    (some ((2:Int),(0:Int))))
    else
    (if(((n.Tag==(5:Int))||(n.Tag==(22:Int)))||(n.Tag==(23:Int)))then
    (if((own==(-1:Int))||((own !=(0:Int))&&(own !=(1:Int))))then
    (some ((0:Int),(201:Int)))
    else
    (some ((1:Int),(0:Int))))
    else
    (if((own==(-1:Int))||((own !=(0:Int))&&(own !=own)))then
    (some ((0:Int),(201:Int)))
    else
    (some ((1:Int),(0:Int)))))))
  |e::tl,own=>
    if((e==(0:Int))||(e==own))then
    ((mM kinds n tl) own)
    else
    (if(own==(0:Int))then
    ((mM kinds n tl) e)
    else
    ((mM kinds n tl) (-1:Int)))

def jV(kinds:(List Int))(n:ap)(l:(List Int)):Option (Int×Int):=
 mM kinds n l (0:Int)

def m3(e:aP)(kinds:(List Int)):List Int->Option (Int×Int)
 |[]=>
  (pA e (jV kinds)).bind fun r2=>
  some (r2.1,r2.2)
 |e2::tl1=>
  if(decide ((kinds.length:Int)<=e2))then
  (some ((0:Int),(2:Int)))
  else
  ((m3 e kinds tl1))

def qQ(e:aP)(kinds:(List Int)):List Int->Option (Int×Int)
 |[]=>
  (vt e).bind fun r1=>
  m3 e kinds r1
 |e1::tl=>
  if((decide (e1<(0:Int)))||(decide ((3:Int)<e1)))then
  (some ((0:Int),(2:Int)))
  else
  ((qQ e kinds tl))

def nv(e:aP)(kinds:(List Int)):Option (Int×Int):=
 (tG e).bind fun r=>
 if(r !=(0:Int))then
 (some ((0:Int),r))
 else
 (qQ e kinds kinds)

def kf(e:aP)(kinds:(List Int)):Option Bool:=
 (nv e kinds).bind fun r=>
 some ((r.2==(0:Int))&&((r.1==(0:Int))||(r.1==(1:Int))))

def gZ(l:al):Option (Bool×al):=
 (ji ([l.a_,l.b])).bind fun r=>
 (kf ((({l with result:=r}:al).n).Cond) (({l with result:=r}:al).result)).bind fun r1=>
 some (r1,({l with result:=r}:al))

def fK(l:al):Option (Bool×al):=
 (kf ((({l with result:=l.a_}:al).n).Cond) (({l with result:=l.a_}:al).a_)).bind fun r=>
 some (r,({l with result:=l.a_}:al))

def eH(nx1:Bool->al->Option (Bool×al))(ob1:al)(ok1:Bool)(k:Int):Option (Bool×al):=
 (app ob1.result ([k])).bind fun l7=>
 nx1 ok1 ({ob1 with result:=l7}:al)

def hY(nx1:Bool->al->Option (Bool×al))(e1:eS)(ok:Bool)(ob1:al)(r:Int×Int)(x:Bool):Option (Bool×al):=
 if x then
 (eH nx1 ob1 (((ok&&(r.2==(0:Int)))&&(decide ((1:Int)<e1.Tag)))&&(decide (e1.Tag<=(5:Int)))) r.1)
 else
 (eH nx1 ob1 (((ok&&(r.2==(0:Int)))&&(decide ((1:Int)<e1.Tag)))&&(decide (e1.Tag<=(5:Int)))) (2:Int))

def cy:List eS->Bool->al->Option (Bool×al)
  |[],ok,ob1=>
    some (ok,ob1)
  |e1::tl1,ok,ob1=>
    if(e1.Tag==(1:Int))then
    (eH (cy tl1) ob1 (ok&&((e1.Arg.Nodes.length:Int)==(0:Int))) (2:Int))
    else
    ((nv e1.Arg ob1.a_).bind fun r=>
    if(e1.Tag==(3:Int))then
    (eH (cy tl1) ob1 ((((ok&&(r.2==(0:Int)))&&(decide ((1:Int)<e1.Tag)))&&(decide (e1.Tag<=(5:Int))))&&((r.1==(2:Int))||(r.1==(0:Int)))) (2:Int))
    else
    (if(e1.Tag==(4:Int))then
    (hY (cy tl1) e1 ok ob1 r (e1.Tag==(4:Int)))
    else
    (hY (cy tl1) e1 ok ob1 r (e1.Tag==(5:Int)))))

def dw(l:al):List Int->al->Option (Bool×al)
  |[],ob=>
    cy l.n.Aggs (((decide ((l.n.Keys.length:Int)<=(3:Int)))&&(decide ((l.n.Aggs.length:Int)<=(12:Int))))&&(decide ((0:Int)<(IntKind.i64.wrap ((l.n.Keys.length:Int)+(l.n.Aggs.length:Int)))))) ob
  |e::tl,ob=>
    if((decide (e<(0:Int)))||(decide ((ob.a_.length:Int)<=e)))then
    (some (false,ob))
    else
    ((gR ob.a_ e).bind fun e2=>
    (app ob.result ([e2])).bind fun l9=>
    (dw l tl) ({ob with result:=l9}:al))

def eo(l:al):Option (Bool×al):=
 dw l l.n.Keys ({l with result:=([]:List Int)}:al)

def fq:List eS->Nat->al->Option (Bool×al)
  |[],i1,ob=>
    some (true,ob)
  |e::tl,i1,ob=>
    if(e.Tag==(3:Int))then
    ((gR ob.result (IntKind.i64.wrap ((ob.n.Keys.length:Int)+(i1:Int)))).bind fun e1=>
    (some (ob.result.set (IntKind.i64.wrap ((ob.n.Keys.length:Int)+(i1:Int))).toNat (4:Int))).bind fun st=>
    (fq tl) (i1+1) ({ob with result:=st}:al))
    else
    ((fq tl) (i1+1) ob)

def dY(l:al):Option (Bool×al):=
 (eo l).bind fun r=>
 if(!r.1)then
 (some (false,r.2))
 else
 (fq r.2.n.Aggs 0 r.2)

def hZ(nx1:Nat->Bool->al->Option (Bool×al))(i1:Nat)(e2:eS)(ok1:Bool)(ob:al)(e3:Int)(x1:Bool):Option (Bool×al):=
 if x1 then
 (nx1 (i1+1) ((ok1&&((e2.Arg.Nodes.length:Int)==(0:Int)))&&(e3 !=(4:Int))) ob)
 else
 (nx1 (i1+1) false ob)

def fD(l:al)(nx1:Nat->Bool->al->Option (Bool×al))(i1:Nat)(e2:eS)(ok1:Bool)(ob:al)(e3:Int)(x:Bool):Option (Bool×al):=
  if x then
  (nx1 (i1+1) ((ok1&&((e2.Arg.Nodes.length:Int)==(0:Int)))&&(e3==(2:Int))) ob)
  else
  (if(e2.Tag==(3:Int))then
  ((gR ob.result (IntKind.i64.wrap ((l.n.Keys.length:Int)+(i1:Int)))).bind fun e4=>
  (some (ob.result.set (IntKind.i64.wrap ((l.n.Keys.length:Int)+(i1:Int))).toNat (2:Int))).bind fun st=>
  nx1 (i1+1) ((ok1&&((e2.Arg.Nodes.length:Int)==(0:Int)))&&(e3==(4:Int))) ({ob with result:=st}:al))
  else
  (if(e2.Tag==(4:Int))then
  (hZ nx1 i1 e2 ok1 ob e3 (e2.Tag==(4:Int)))
  else
  (hZ nx1 i1 e2 ok1 ob e3 (e2.Tag==(5:Int)))))

def ca(l:al):List eS->Nat->Bool->al->Option (Bool×al)
 |[],i1,ok1,ob=>
  some (ok1,ob)
 |e2::tl1,i1,ok1,ob=>
  (gR ob.a_ (IntKind.i64.wrap ((l.n.Keys.length:Int)+(i1:Int)))).bind fun e3=>
  if(e2.Tag==(1:Int))then
  (fD l (ca l tl1) i1 e2 ok1 ob e3 (e2.Tag==(1:Int)))
  else
  (fD l (ca l tl1) i1 e2 ok1 ob e3 (e2.Tag==(2:Int)))

def d5(l:al)(r:(List Int)):List Int->Nat->Bool->Option (Bool×al)
  |[],i,ok=>
    ca l l.n.Aggs 0 ok ({l with result:=r}:al)
  |e1::tl,i,ok=>
    (if(ok&&(e1==(i:Int)))then((gR l.a_ (i:Int)).bind fun e5=>
    some (e5 !=(4:Int)))else some false).bind fun t=>
    (d5 l r tl) (i+1) t

def dA(l:al):Option (Bool×al):=
  (gR l.nodes l.n.A).bind fun e=>
  if(!((((e.Op==(9:Int))&&(decide ((l.n.Keys.length:Int)<=(3:Int))))&&(decide ((l.n.Aggs.length:Int)<=(12:Int))))&&((IntKind.i64.wrap ((l.n.Keys.length:Int)+(l.n.Aggs.length:Int)))==(l.a_.length:Int))))then
  (some (false,l))
  else
  ((dO l.a_).bind fun r=>
  d5 l r l.n.Keys 0 ((((e.Op==(9:Int))&&(decide ((l.n.Keys.length:Int)<=(3:Int))))&&(decide ((l.n.Aggs.length:Int)<=(12:Int))))&&((IntKind.i64.wrap ((l.n.Keys.length:Int)+(l.n.Aggs.length:Int)))==(l.a_.length:Int))))

def ew:List aP->al->Option (Bool×al)
  |[],ob=>
    some (decide ((0:Int)<(ob.result.length:Int)),ob)
  |e::tl,ob=>
    (nv e ob.a_).bind fun r=>
    if(r.2 !=(0:Int))then
    (some (false,ob))
    else
    ((app ob.result ([r.1])).bind fun l4=>
    (ew tl) ({ob with result:=l4}:al))

def iG(l:al):Option (Bool×al):=
 ew l.n.Items ({l with result:=([]:List Int)}:al)

def ly(l:al):Option (Bool×al):=
 some (true,({l with result:=l.a_}:al))

def fC(nx:Nat->al->Option (Bool×al))(i:Nat)(ob:al)(e1:Int)(k:Int):Option (Bool×al):=
  if((e1 !=(0:Int))&&(e1 !=k))then
  (some (false,ob))
  else
  ((app ob.result ([k])).bind fun l4=>
  nx (i+1) ({ob with result:=l4}:al))

def dv:List Int->Nat->al->Option (Bool×al)
 |[],i,ob=>
  some (true,ob)
 |e::tl,i,ob=>
  (gR ob.b (i:Int)).bind fun e1=>
  if(e==(0:Int))then
  (fC (dv tl) i ob e1 e1)
  else
  (fC (dv tl) i ob e1 e)

def iX(l:al):Option (Bool×al):=
 if((l.a_.length:Int) !=(l.b.length:Int))then
 (some (false,l))
 else
 (dv l.a_ 0 ({l with result:=([]:List Int)}:al))

def dM(f:(kg->Option Bool)):List kg->Nat->Option Int
 |[],i=>
  some (-1:Int)
 |e::tl,i=>
  (f e).bind fun r=>
  if r then
  (some (i:Int))
  else
  ((dM f tl) (i+1))

def iE(ae:(List kg))(f:(kg->Option Bool)):Option Int:=
 dM f ae 0

def fc(ae:(List kg))(f:(kg->Option Bool)):Option Bool:=
 (iE ae f).bind fun r=>
 some (decide ((0:Int)<=r))

def mE(l:al)(o:kg):Option Bool:=
 some ((decide (o.Col<(0:Int)))||(decide ((l.a_.length:Int)<=o.Col)))

def jQ(l:al):Option (Bool×al):=
 (fc ((({l with result:=l.a_}:al).n).Order) (mE ({l with result:=l.a_}:al))).bind fun r=>
 some (((((!r)&&(decide ((((({l with result:=l.a_}:al).n).Order).length:Int)<=(3:Int))))&&(decide ((-1:Int)<=((({l with result:=l.a_}:al).n).Limit))))&&(decide (((({l with result:=l.a_}:al).n).Limit)<=(2147483647:Int)))),({l with result:=l.a_}:al))

def lz:Option (List (Int×(al->Unit->Option (Bool×al)))):=
 some (gw (gw (gw (gw (gw (gw (gw (gw (gw (gw (gw ([]:List (Int×(al->Unit->Option (Bool×al)))) (1:Int) (fun(mc:al) (mx:Unit)=>jR mc)) (9:Int) (fun(mc:al) (mx:Unit)=>hT mc)) (2:Int) (fun(mc:al) (mx:Unit)=>gZ mc)) (3:Int) (fun(mc:al) (mx:Unit)=>fK mc)) (4:Int) (fun(mc:al) (mx:Unit)=>eo mc)) (10:Int) (fun(mc:al) (mx:Unit)=>dY mc)) (11:Int) (fun(mc:al) (mx:Unit)=>dA mc)) (5:Int) (fun(mc:al) (mx:Unit)=>iG mc)) (6:Int) (fun(mc:al) (mx:Unit)=>ly mc)) (7:Int) (fun(mc:al) (mx:Unit)=>iX mc)) (8:Int) (fun(mc:al) (mx:Unit)=>jQ mc))

def jD(x2:Bool):Option Int:=
 if x2 then
 (some (1:Int))
 else
 (some (-1:Int))

def rD(op:Int)(x1:Bool):Option Int:=
  if x1 then
  (some (2:Int))
  else
  (if(op==(3:Int))then
  (jD (op==(3:Int)))
  else
  (if(op==(4:Int))then
  (jD (op==(4:Int)))
  else
  (if(op==(5:Int))then
  (jD (op==(5:Int)))
  else
  (if(op==(6:Int))then
  (jD (op==(6:Int)))
  else
  (if(op==(8:Int))then
  (jD (op==(8:Int)))
  else
  (if(op==(10:Int))then
  (jD (op==(10:Int)))
  else
  (jD (op==(11:Int)))))))))

def rE(op:Int)(x:Bool):Option Int:=
  if x then
  (some (0:Int))
  else
  (if(op==(2:Int))then
  (rD op (op==(2:Int)))
  else
  (rD op (op==(7:Int))))

def vR(op:Int):Option Int:=
 if(op==(1:Int))then
 (rE op (op==(1:Int)))
 else
 (rE op (op==(9:Int)))

def rh(n:aa):Option Bool:=
 some ((((((((n.Op==(1:Int))||(n.Op==(9:Int)))||((n.Table==(0:Int))&&((n.Kinds.length:Int)==(0:Int))))&&((n.Op==(2:Int))||(!n.Left)))&&(((n.Op==(2:Int))||(n.Op==(3:Int)))||((n.Cond.Nodes.length:Int)==(0:Int))))&&((((n.Op==(4:Int))||(n.Op==(10:Int)))||(n.Op==(11:Int)))||((IntKind.i64.wrap ((n.Keys.length:Int)+(n.Aggs.length:Int)))==(0:Int))))&&((n.Op==(5:Int))||((n.Items.length:Int)==(0:Int))))&&((n.Op==(8:Int))||(((n.Order.length:Int)==(0:Int))&&(n.Limit==(0:Int)))))

def ij(v:Int):List Int->Nat->Option Int
 |[],i=>
  some (-1:Int)
 |e::tl,i=>
  if(v==e)then
  (some (i:Int))
  else
  ((ij v tl) (i+1))

def n6(ae:(List Int))(v:Int):Option Int:=
 ij v ae 0

def gg(ae:(List Int))(v:Int):Option Bool:=
 (n6 ae v).bind fun r=>
 some (decide ((0:Int)<=r))

def bd(l:al)(i:Int)(ask:(al->Unit->Option (Bool×al)))(e:aa)(r:Int):List Int->Nat->(List Int)->(List Int)->Option (Bool×al)
  |[],i5,a_,b3=>
    if(((e.Op==(8:Int))||(e.Op==(10:Int)))&&(i !=(IntKind.i64.wrap (((({({({({({l with n:=e}:al)with a_:=[]}:al)with b:=[]}:al)with a_:=a_}:al)with b:=b3}:al).nodes).length:Int)-(1:Int)))))then
    (some (false,({({({({({l with n:=e}:al)with a_:=[]}:al)with b:=[]}:al)with a_:=a_}:al)with b:=b3}:al)))
    else
    ((ask ({({({({({l with n:=e}:al)with a_:=[]}:al)with b:=[]}:al)with a_:=a_}:al)with b:=b3}:al) ()).bind fun r2=>
    if((!r2.1)||(decide ((16:Int)<(r2.2.result.length:Int))))then
    (some (false,r2.2))
    else
    ((app r2.2.kinds ([r2.2.result])).bind fun l1=>
    (dV r2.2.open_ 0 (IntKind.i64.wrap ((r2.2.open_.length:Int)-r))).bind fun y2=>
    (app y2 ([i])).bind fun l2=>
    some (true,({({r2.2 with kinds:=l1}:al)with open_:=l2}:al))))
  |e1::tl,i5,a_,b3=>
    (gR l.kinds e1).bind fun e2=>
    (if(e.Op !=(11:Int))then((gg e2 (4:Int)).bind fun r3=>
    some r3)else some false).bind fun t1=>
    if t1 then
    (some (false,({({({({({l with n:=e}:al)with a_:=[]}:al)with b:=[]}:al)with a_:=a_}:al)with b:=b3}:al)))
    else
    (if((i5:Int)==(0:Int))then
    ((bd l i ask e r tl) (i5+1) (({({({({({({l with n:=e}:al)with a_:=[]}:al)with b:=[]}:al)with a_:=a_}:al)with b:=b3}:al)with a_:=e2}:al).a_) (({({({({({({l with n:=e}:al)with a_:=[]}:al)with b:=[]}:al)with a_:=a_}:al)with b:=b3}:al)with a_:=e2}:al).b))
    else
    ((bd l i ask e r tl) (i5+1) (({({({({({({l with n:=e}:al)with a_:=[]}:al)with b:=[]}:al)with a_:=a_}:al)with b:=b3}:al)with b:=e2}:al).a_) (({({({({({({l with n:=e}:al)with a_:=[]}:al)with b:=[]}:al)with a_:=a_}:al)with b:=b3}:al)with b:=e2}:al).b)))

def dh(l:al)(i:Int)(ask:(al->Unit->Option (Bool×al))):Option (Bool×al):=
  (gR l.nodes i).bind fun e=>
  (vR e.Op).bind fun r=>
  (if(!((decide (r<(0:Int)))||(decide ((l.open_.length:Int)<r))))then((rh e).bind fun r1=>
  some (!r1))else some true).bind fun t=>
  if t then
  (some (false,l))
  else
  ((dV l.open_ (IntKind.i64.wrap ((l.open_.length:Int)-r)) (l.open_.length:Int)).bind fun y=>
  if(!decide ((ph ([(-1:Int),(-1:Int)]) y)=([e.A,e.B])))then
  (some (false,l))
  else
  ((dV l.open_ (IntKind.i64.wrap ((l.open_.length:Int)-r)) (l.open_.length:Int)).bind fun y1=>
  bd l i ask e r y1 0 (({({({l with n:=e}:al)with a_:=[]}:al)with b:=[]}:al).a_) (({({({l with n:=e}:al)with a_:=[]}:al)with b:=[]}:al).b)))

def nk:List (List Int)->(List (List Int))->Option ((List (List Int))×Int×Int)
 |[],out=>
  some (out,(0:Int),(0:Int))
 |e::tl,out=>
  (dO e).bind fun r1=>
  (app out ([r1])).bind fun out1=>
  (nk tl) out1

def lU(ob:al)(wrong1:Int):Option ((List (List Int))×Int×Int):=
 if(decide ((0:Int)<=wrong1))then
 (some ([],wrong1,(291:Int)))
 else
 (nk ob.kinds ([]:List (List Int)))

def jE(nodes:(List aa))(wrong:Int)(ob:al):Option ((List (List Int))×Int×Int):=
 if((decide (wrong<(0:Int)))&&((ob.open_.length:Int) !=(1:Int)))then
 (lU ob (IntKind.i64.wrap ((nodes.length:Int)-(1:Int))))
 else
 (lU ob wrong)

def fd(nodes:(List aa))(r:(List (Int×(al->Unit->Option (Bool×al))))):List aa->Nat->Int->al->Option ((List (List Int))×Int×Int)
 |[],i1,wrong2,ob1=>
  jE nodes wrong2 ob1
 |e1::tl1,i1,wrong2,ob1=>
  (dh ob1 (i1:Int) ((tZ r e1.Op).getD (fun _ _=>none))).bind fun r2=>
  if(!r2.1)then
  (jE nodes (i1:Int) r2.2)
  else
  ((fd nodes r tl1) (i1+1) wrong2 r2.2)

def iH(nodes:(List aa)):Option ((List (List Int))×Int×Int):=
  if((decide ((nodes.length:Int)<(1:Int)))||(decide ((60:Int)<(nodes.length:Int))))then
  (some ([],(0:Int),(291:Int)))
  else
  ((lz).bind fun r=>
  fd nodes r nodes 0 (-1:Int) (⟨nodes,[],[],(⟨(0:Int),(0:Int),(0:Int),(0:Int),[],false,(⟨[]⟩:aP),[],[],[],[],(0:Int)⟩:aa),[],[],[]⟩:al))

def nu(p:cT):List di->Option Bool
  |[]=>
    some ((decide ((1:Int)<=(p.Frags.length:Int)))&&(decide ((p.Frags.length:Int)<=(30:Int))))
  |e::tl=>
    (iH e.Nodes).bind fun r=>
    (if(((decide ((1:Int)<=e.Way))&&(decide (e.Way<=(4:Int))))&&(decide ((e.Cols.length:Int)<=(16:Int))))then((eM e.Cols qL).bind fun r1=>
    some (!r1))else some false).bind fun t=>
    if(((r.2.2 !=(0:Int))||(!((e.At==(1:Int))||(e.At==(2:Int)))))||(!t))then
    (some false)
    else
    ((nu p tl))

def tw(p:cT):Option Bool:=
 nu p p.Frags

def vW(n:Int):Option Bool:=
 some ((decide ((1:Int)<=n))&&(decide (n<=(2147483647:Int))))

def dL(f:((List am)->Option Bool)):List (List am)->Nat->Option Int
 |[],i=>
  some (-1:Int)
 |e::tl,i=>
  (f e).bind fun r=>
  if r then
  (some (i:Int))
  else
  ((dL f tl) (i+1))

def iD(ae:(List (List am)))(f:((List am)->Option Bool)):Option Int:=
 dL f ae 0

def fb(ae:(List (List am)))(f:((List am)->Option Bool)):Option Bool:=
 (iD ae f).bind fun r=>
 some (decide ((0:Int)<=r))

def rR(v:am):Option Bool:=
 (ii v).bind fun r=>
 some (r !=(0:Int))

def c9(f:(am->Option Bool)):List am->Nat->Option Int
 |[],i=>
  some (-1:Int)
 |e::tl,i=>
  (f e).bind fun r=>
  if r then
  (some (i:Int))
  else
  ((c9 f tl) (i+1))

def kZ(ae:(List am))(f:(am->Option Bool)):Option Int:=
 c9 f ae 0

def gy(ae:(List am))(f:(am->Option Bool)):Option Bool:=
 (kZ ae f).bind fun r=>
 some (decide ((0:Int)<=r))

def yr(r:(List am)):Option Bool:=
  (if(decide ((r.length:Int)<=(16:Int)))then((gy r rR).bind fun r1=>
  some (!r1))else some false).bind fun t=>
  some t

def yu(r:(List am)):Option Int:=
 (yr r).bind fun r1=>
 if(!r1)then
 (some (150:Int))
 else
 (some (0:Int))

def xI(r:(List am)):Option Bool:=
 (yu r).bind fun r1=>
 some (r1 !=(0:Int))

def yF(l:(List (List am))):Option Bool:=
  (if((decide ((0:Int)<(l.length:Int)))&&(decide ((l.length:Int)<=(4:Int))))then((fb l xI).bind fun r=>
  some (!r))else some false).bind fun t=>
  some t

def vX(b:bI)(seq:Int):Option Bool:=
  if((decide (seq<(1:Int)))||(decide ((1099511627776:Int)<seq)))then
  (some false)
  else
  (if b.End then
  (some (((b.Rows.length:Int)==(0:Int))&&(b.Count==(IntKind.u64.wrap (seq-(1:Int))))))
  else
  ((if(b.Count==(0:Int))then((yF b.Rows).bind fun r=>
  some r)else some false).bind fun t=>
  some t))

def vc(a1:(List am))(b:(List am)):Option Bool:=
 (dR a1 b).bind fun r=>
 some r

def AD(a1:(List (List am)))(b:(List (List am))):Option Bool:=
 (cn a1 b vc).bind fun r=>
 some r

def yE(a1:bI)(b:bI):Option Bool:=
  (if((a1.End==b.End)&&(a1.Count==b.Count))then((AD a1.Rows b.Rows).bind fun r=>
  some r)else some false).bind fun t=>
  some t

def oX(p:aI):Option Int:=
  (vW p.Session).bind fun r=>
  if(p.Kind==(1:Int))then
  ((if(r&&(p.Limit==(0:Int)))then((vX p.Batch p.Seq).bind fun r1=>
  some r1)else some false).bind fun t=>
  if(!t)then
  (some (321:Int))
  else
  (some (0:Int)))
  else
  (if(p.Kind==(2:Int))then
  ((if r then((yE p.Batch (⟨[],false,(0:Int)⟩:bI)).bind fun r2=>
  some r2)else some false).bind fun t1=>
  if(!((((t1&&(decide ((1:Int)<=p.Seq)))&&(decide (p.Seq<=(1099511627777:Int))))&&(decide ((IntKind.u64.wrap (p.Seq-(1:Int)))<=p.Limit)))&&(decide (p.Limit<=(1099511627776:Int)))))then
  (some (321:Int))
  else
  (some (0:Int)))
  else
  (if(!false)then
  (some (321:Int))
  else
  (some (0:Int))))

def iP(m:bR)(kind:Int):Option Bool:=
  (if(((decide ((0:Int)<=m.Frag))&&(decide (m.Frag<(30:Int))))&&(m.Packet.Kind==kind))then((oX m.Packet).bind fun r=>
  some (r==(0:Int)))else some false).bind fun t=>
  some t

def nh(m:bR)(x:Bool):Option Bool:=
  if x then
  (some true)
  else
  (if(m.Kind==(3:Int))then
  (((iP m) (1:Int)).bind fun r1=>
  some r1)
  else
  (if(m.Kind==(4:Int))then
  (((iP m) (2:Int)).bind fun r2=>
  some r2)
  else
  (if(m.Kind==(5:Int))then
  (some ((m.Err==(140:Int))||(m.Err==(300:Int))))
  else
  (some false))))

def sG(m:bR):Option Bool:=
  if(m.Kind==(1:Int))then
  ((if((decide ((1:Int)<=m.Sites))&&(decide (m.Sites<=(8:Int))))then((tw m.Plan).bind fun r=>
  some r)else some false).bind fun t=>
  some t)
  else
  (if(m.Kind==(2:Int))then
  (nh m (m.Kind==(2:Int)))
  else
  (if(m.Kind==(6:Int))then
  (nh m (m.Kind==(6:Int)))
  else
  (nh m (m.Kind==(7:Int)))))

def lK(m:bR):Option Bool:=
  (nt m.From).bind fun r=>
  (if r then((nt m.To).bind fun r1=>
  some r1)else some false).bind fun t=>
  (if((t&&(decide ((1:Int)<=m.Epoch)))&&(decide (m.Epoch<=(12:Int))))then((uq m).bind fun r2=>
  some r2)else some false).bind fun t1=>
  (if t1 then((sG m).bind fun r3=>
  some r3)else some false).bind fun t2=>
  some t2

def fT:List Int->aU->Option aU
 |[],ob=>
  some ob
 |e::tl,ob=>
  (app ob.bytes ([(IntKind.u8.wrap e)])).bind fun l2=>
  (fT tl) ({ob with bytes:=l2}:aU)

def cb(w1:aU)(l:(List Int)):Option aU:=
 fT l w1

def j7(w1:aU)(l:(List Int)):Option aU:=
 (cb w1 ([(l.length:Int)])).bind fun r=>
 (cb r l).bind fun r1=>
 some r1

def fe(w1:aU)(n:aa):Option aU:=
 (cb w1 ([n.Table])).bind fun r=>
 (j7 r n.Kinds).bind fun r1=>
 some r1

def lJ(w1:aU)(n:Int):Option aU:=
 (cb w1 ([n])).bind fun r=>
 some r

def gL(w1:aU)(is1:Bool):Option aU:=
 if is1 then
 (lJ w1 (1:Int))
 else
 (lJ w1 (0:Int))

def ko(p:Int)(bytes:Int):Nat->(List Int)->Int->Option (List Int)
  |0,_,_=>none
  |n+1,out1,x=>
    if(decide (x<bytes))then
    ((Y9 (IntKind.i64.wrap ((IntKind.i64.wrap ((8:Int)*(IntKind.i64.wrap (bytes-x))))-(8:Int)))).bind fun u=>
    (app out1 ([(IntKind.u8.wrap (((IntKind.u64.wrap p)).fdiv (2^(min (Int.toNat (IntKind.i64.wrap ((IntKind.i64.wrap ((8:Int)*(IntKind.i64.wrap (bytes-x))))-(8:Int)))) IntKind.u64.bits))))])).bind fun out2=>
    (ko p bytes n) out2 (IntKind.i64.wrap (x+(1:Int))))
    else
    (some out1)

def rm(b:(List Int))(p:Int)(bytes:Int):Option (List Int):=
 (xg (0:Int) (IntKind.i64.wrap ((b.length:Int)+bytes)) (0:Int)).bind fun mk=>
 (app mk b).bind fun out=>
 ko p bytes fh out (0:Int)

def qf(b:(List Int))(p:Int):Option (List Int):=
 (rm b p (2:Int)).bind fun r=>
 some r

def ef(p:Int)(bytes:Int):Nat->(List Int)->Int->Option (List Int)
  |0,_,_=>none
  |n+1,out1,x=>
    if(decide (x<bytes))then
    ((Y9 (IntKind.i64.wrap ((IntKind.i64.wrap ((8:Int)*(IntKind.i64.wrap (bytes-x))))-(8:Int)))).bind fun u=>
    (app out1 ([(IntKind.u8.wrap ((p).fdiv (2^(min (Int.toNat (IntKind.i64.wrap ((IntKind.i64.wrap ((8:Int)*(IntKind.i64.wrap (bytes-x))))-(8:Int)))) IntKind.u64.bits))))])).bind fun out2=>
    (ef p bytes n) out2 (IntKind.i64.wrap (x+(1:Int))))
    else
    (some out1)

def rk(b:(List Int))(p:Int)(bytes:Int):Option (List Int):=
 (xg (0:Int) (IntKind.i64.wrap ((b.length:Int)+bytes)) (0:Int)).bind fun mk=>
 (app mk b).bind fun out=>
 ef p bytes fh out (0:Int)

def jS(b:(List Int))(p:Int):Option (List Int):=
 (rk b p (8:Int)).bind fun r=>
 some r

def r0(v:am):Option ((List Int)×Int):=
  (ii v).bind fun r=>
  if(r !=(0:Int))then
  (some ([],r))
  else
  (if(v.Kind==(1:Int))then
  ((app ([(IntKind.u8.wrap v.Kind)]) ([(IntKind.u8.wrap v.N)])).bind fun b=>
  some (b,(0:Int)))
  else
  (if(v.Kind==(2:Int))then
  ((jS ([(IntKind.u8.wrap v.Kind)]) (IntKind.u64.wrap v.N)).bind fun r1=>
  some (r1,(0:Int)))
  else
  (if(v.Kind==(3:Int))then
  ((app ([(IntKind.u8.wrap v.Kind)]) ([(IntKind.u8.wrap (v.S.length:Int))])).bind fun l3=>
  (app l3 (ka v.S)).bind fun b1=>
  some (b1,(0:Int)))
  else
  (if(v.Kind==(4:Int))then
  ((jS ([(IntKind.u8.wrap v.Kind)]) (IntKind.u64.wrap v.N)).bind fun r2=>
  (jS r2 v.U).bind fun r3=>
  some (r3,(0:Int)))
  else
  (some ([(IntKind.u8.wrap v.Kind)],(0:Int)))))))

def dP:List ap->aU->Option aU
  |[],ob=>
    some ob
  |e1::tl,ob=>
    (cb ob ([e1.Tag])).bind fun r1=>
    if(e1.Tag==(2:Int))then
    ((cb r1 ([e1.Col])).bind fun r2=>
    (dP tl) r2)
    else
    (if(e1.Tag==(1:Int))then
    ((r0 e1.Value).bind fun r3=>
    (app r1.bytes r3.1).bind fun l1=>
    (dP tl) ({r1 with bytes:=l1}:aU))
    else
    ((dP tl) r1))

def iL(w1:aU)(e:aP):Option aU:=
 (qf w1.bytes (IntKind.u16.wrap (e.Nodes.length:Int))).bind fun r=>
 dP e.Nodes ({w1 with bytes:=r}:aU)

def iK(w1:aU)(n:aa):Option aU:=
 (gL w1 n.Left).bind fun r=>
 (iL r n.Cond).bind fun r1=>
 some r1

def gH(w1:aU)(n:aa):Option aU:=
 (iL w1 n.Cond).bind fun r=>
 some r

def gU:List eS->aU->Option aU
 |[],ob=>
  some ob
 |e::tl,ob=>
  (cb ob ([e.Tag])).bind fun r2=>
  (iL r2 e.Arg).bind fun r3=>
  (gU tl) r3

def d6(w1:aU)(n:aa):Option aU:=
 (j7 w1 n.Keys).bind fun r=>
 (cb r ([(n.Aggs.length:Int)])).bind fun r1=>
 gU n.Aggs r1

def gi:List aP->aU->Option aU
 |[],ob=>
  some ob
 |e::tl,ob=>
  (iL ob e).bind fun r1=>
  (gi tl) r1

def gp(w1:aU)(n:aa):Option aU:=
 (cb w1 ([(n.Items.length:Int)])).bind fun r=>
 gi n.Items r

def km(p:Int)(bytes:Int):Nat->(List Int)->Int->Option (List Int)
  |0,_,_=>none
  |n+1,out1,x=>
    if(decide (x<bytes))then
    ((Y9 (IntKind.i64.wrap ((IntKind.i64.wrap ((8:Int)*(IntKind.i64.wrap (bytes-x))))-(8:Int)))).bind fun u=>
    (app out1 ([(IntKind.u8.wrap (((IntKind.u64.wrap p)).fdiv (2^(min (Int.toNat (IntKind.i64.wrap ((IntKind.i64.wrap ((8:Int)*(IntKind.i64.wrap (bytes-x))))-(8:Int)))) IntKind.u64.bits))))])).bind fun out2=>
    (km p bytes n) out2 (IntKind.i64.wrap (x+(1:Int))))
    else
    (some out1)

def rl(b:(List Int))(p:Int)(bytes:Int):Option (List Int):=
 (xg (0:Int) (IntKind.i64.wrap ((b.length:Int)+bytes)) (0:Int)).bind fun mk=>
 (app mk b).bind fun out=>
 km p bytes fh out (0:Int)

def mT(b:(List Int))(p:Int):Option (List Int):=
 (rl b p (4:Int)).bind fun r=>
 some r

def gT(n:aa):List kg->aU->Option aU
 |[],ob=>
  (mT ob.bytes (IntKind.u32.wrap (IntKind.i64.wrap (n.Limit+(1:Int))))).bind fun r1=>
  some ({ob with bytes:=r1}:aU)
 |e::tl,ob=>
  (cb ob ([e.Col])).bind fun r2=>
  (gL r2 e.Desc).bind fun r3=>
  (gT n tl) r3

def ib(w1:aU)(n:aa):Option aU:=
 (cb w1 ([(n.Order.length:Int)])).bind fun r=>
 gT n n.Order r

def eC(nx:aU->Option aU):List aa->aU->Option aU
  |[],ob1=>
    nx ob1
  |e1::tl1,ob1=>
    (cb ob1 ([e1.Op])).bind fun r4=>
    if((tZ (gw (gw (gw (gw (gw (gw (gw (gw (gw ([]:List (Int×(aU->aa->Option (Unit×aU)))) (1:Int) (fun(mc:aU) (mx:aa)=>(fe mc mx).map fun mr=>((),mr))) (9:Int) (fun(mc:aU) (mx:aa)=>(fe mc mx).map fun mr=>((),mr))) (2:Int) (fun(mc:aU) (mx:aa)=>(iK mc mx).map fun mr=>((),mr))) (3:Int) (fun(mc:aU) (mx:aa)=>(gH mc mx).map fun mr=>((),mr))) (4:Int) (fun(mc:aU) (mx:aa)=>(d6 mc mx).map fun mr=>((),mr))) (10:Int) (fun(mc:aU) (mx:aa)=>(d6 mc mx).map fun mr=>((),mr))) (11:Int) (fun(mc:aU) (mx:aa)=>(d6 mc mx).map fun mr=>((),mr))) (5:Int) (fun(mc:aU) (mx:aa)=>(gp mc mx).map fun mr=>((),mr))) (8:Int) (fun(mc:aU) (mx:aa)=>(ib mc mx).map fun mr=>((),mr))) e1.Op).isSome)then
    ((((tZ (gw (gw (gw (gw (gw (gw (gw (gw (gw ([]:List (Int×(aU->aa->Option (Unit×aU)))) (1:Int) (fun(mc:aU) (mx:aa)=>(fe mc mx).map fun mr=>((),mr))) (9:Int) (fun(mc:aU) (mx:aa)=>(fe mc mx).map fun mr=>((),mr))) (2:Int) (fun(mc:aU) (mx:aa)=>(iK mc mx).map fun mr=>((),mr))) (3:Int) (fun(mc:aU) (mx:aa)=>(gH mc mx).map fun mr=>((),mr))) (4:Int) (fun(mc:aU) (mx:aa)=>(d6 mc mx).map fun mr=>((),mr))) (10:Int) (fun(mc:aU) (mx:aa)=>(d6 mc mx).map fun mr=>((),mr))) (11:Int) (fun(mc:aU) (mx:aa)=>(d6 mc mx).map fun mr=>((),mr))) (5:Int) (fun(mc:aU) (mx:aa)=>(gp mc mx).map fun mr=>((),mr))) (8:Int) (fun(mc:aU) (mx:aa)=>(ib mc mx).map fun mr=>((),mr))) e1.Op).getD (fun _ _=>none)) r4 (e1)).bind fun r5=>
    (eC nx tl1) r5.2)
    else
    ((eC nx tl1) r4)

def gq:List di->aU->Option aU
 |[],ob=>
  some ob
 |e::tl,ob=>
  (cb ob ([e.At,e.Way])).bind fun r1=>
  (j7 r1 e.Cols).bind fun r2=>
  (cb r2 ([(e.Nodes.length:Int)])).bind fun r3=>
  eC (gq tl) e.Nodes r3

def lI(w1:aU)(p:cT):Option aU:=
 (cb w1 ([(p.Frags.length:Int)])).bind fun r=>
 gq p.Frags r

def lA:List am->(List Int)->Option ((List Int)×Int)
  |[],b1=>
    some (b1,(0:Int))
  |e::tl,b1=>
    (r0 e).bind fun r=>
    if(r.2 !=(0:Int))then
    (some (([]:List Int),r.2))
    else
    ((app b1 r.1).bind fun b3=>
    (lA tl) b3)

def wv(b:(List Int))(l1:(List am)):Option ((List Int)×Int):=
 lA l1 b

def yK(r:(List am)):Option ((List Int)×Int):=
  if(decide ((16:Int)<(r.length:Int)))then
  (some ([],(3:Int)))
  else
  ((wv ([(IntKind.u8.wrap (r.length:Int))]) r).bind fun r1=>
  some (r1.1,r1.2))

def pB(b:List Int)(at1:Int)(e:Int):Option ((List Int)×Int×Int):=
 if(e !=(0:Int))then
 (some ([],at1,e))
 else
 (some (b,(0:Int),(0:Int)))

def nw:List (List am)->Nat->(List Int)->Int->Int->Option ((List Int)×Int×Int)
  |[],i,b1,at2,e1=>
    pB b1 at2 e1
  |e2::tl,i,b1,at2,e1=>
    (yK e2).bind fun r1=>
    if(r1.2 !=(0:Int))then
    (pB b1 (i:Int) r1.2)
    else
    ((app b1 r1.1).bind fun b2=>
    (nw tl) (i+1) b2 at2 r1.2)

def ww(l:(List (List am))):Option ((List Int)×Int×Int):=
  if(decide ((400:Int)<(l.length:Int)))then
  (some ([],(0:Int),(3:Int)))
  else
  ((qf ([]) (IntKind.u16.wrap (l.length:Int))).bind fun r=>
  nw l 0 r (0:Int) (0:Int))

def mi(w1:aU)(p:aI):Option aU:=
  (mT w1.bytes p.Session).bind fun r=>
  (jS r p.Seq).bind fun r1=>
  if(p.Kind==(2:Int))then
  ((jS r1 p.Limit).bind fun r2=>
  some ({({w1 with bytes:=r1}:aU)with bytes:=r2}:aU))
  else
  ((gL ({w1 with bytes:=r1}:aU) p.Batch.End).bind fun r3=>
  if p.Batch.End then
  ((jS r3.bytes p.Batch.Count).bind fun r4=>
  some ({r3 with bytes:=r4}:aU))
  else
  ((ww p.Batch.Rows).bind fun r5=>
  (app r3.bytes r5.1).bind fun l=>
  some ({r3 with bytes:=l}:aU)))

def j6(m:bR)(r:aU)(x:Bool):Option aU:=
  if x then
  ((cb r ([m.Frag])).bind fun r3=>
  (mi r3 m.Packet).bind fun r4=>
  some r4)
  else
  (if(m.Kind==(5:Int))then
  ((gL r (m.Err==(300:Int))).bind fun r5=>
  some r5)
  else
  (some r))

def jT(w1:aU)(m:bR):Option aU:=
  (cb w1 ([m.Kind,m.From,m.To,m.Epoch])).bind fun r=>
  if(m.Kind==(1:Int))then
  ((cb r ([m.Sites])).bind fun r1=>
  (lI r1 m.Plan).bind fun r2=>
  some r2)
  else
  (if(m.Kind==(3:Int))then
  (j6 m r (m.Kind==(3:Int)))
  else
  (j6 m r (m.Kind==(4:Int))))

def m2(m:bR):Option ((List Int)×Int):=
  (lK m).bind fun r=>
  if(!r)then
  (some ([],(330:Int)))
  else
  ((jT (⟨[]⟩:aU) m).bind fun r1=>
  (nY r1.bytes).bind fun r2=>
  if(decide ((20000:Int)<(r2.length:Int)))then
  (some ([],(330:Int)))
  else
  (some (r2,(0:Int))))

def ql(a1:(List Int))(b:(List Int)):Option Bool:=
 some ((pg a1)==(pg b))

def xJ:Option Bool:=
  (m2 (⟨(2:Int),(2:Int),(0:Int),(3:Int),(0:Int),(0:Int),(⟨[]⟩:cT),(⟨(0:Int),(0:Int),(0:Int),(0:Int),(⟨[],false,(0:Int)⟩:bI)⟩:aI),(0:Int)⟩:bR)).bind fun r=>
  (if((r.2==(0:Int))&&((r.1.length:Int)==(8:Int)))then((dV r.1 0 (4:Int)).bind fun y=>
  (ql y ([(2:Int),(2:Int),(0:Int),(3:Int)])).bind fun r1=>
  some r1)else some false).bind fun t=>
  some t

def j5:List ap->Option Bool
 |[]=>
  some false
 |e1::tl=>
  if(decide ((100:Int)<(e1.Value.S.length:Int)))then
  (some true)
  else
  ((j5 tl))

def lg(e:aP):Option Bool:=
 if(decide ((100:Int)<(e.Nodes.length:Int)))then
 (some true)
 else
 (j5 e.Nodes)

def ia(nx:Option Bool):List eS->Option Bool
 |[]=>
  nx
 |e2::tl2=>
  (lg e2.Arg).bind fun r1=>
  if r1 then
  (some true)
  else
  ((ia nx tl2))

def js(nx:Option Bool)(e:aa):List aP->Option Bool
 |[]=>
  ia nx e.Aggs
 |e1::tl1=>
  (lg e1).bind fun r2=>
  if r2 then
  (some true)
  else
  ((js nx e tl1))

def eI:List aa->Option Bool
  |[]=>
    some false
  |e::tl=>
    (if(!(((((decide ((20:Int)<(e.Kinds.length:Int)))||(decide ((20:Int)<(e.Keys.length:Int))))||(decide ((20:Int)<(e.Order.length:Int))))||(decide ((20:Int)<(e.Items.length:Int))))||(decide ((20:Int)<(e.Aggs.length:Int)))))then((lg e.Cond).bind fun r=>
    some r)else some true).bind fun t=>
    if t then
    (some true)
    else
    (js (eI tl) e e.Items)

def nd(l:(List aa)):Option Bool:=
 if(decide ((70:Int)<(l.length:Int)))then
 (some true)
 else
 (eI l)

def j4:List di->Option Bool
  |[]=>
    some false
  |e::tl=>
    (if(!(decide ((40:Int)<(e.Cols.length:Int))))then((nd e.Nodes).bind fun r=>
    some r)else some true).bind fun t=>
    if t then
    (some true)
    else
    ((j4 tl))

def ot(p:cT):Option Bool:=
 if(decide ((40:Int)<(p.Frags.length:Int)))then
 (some true)
 else
 (j4 p.Frags)

def j3(nx:Option Bool):List am->Option Bool
 |[]=>
  nx
 |e1::tl1=>
  if(decide ((100:Int)<(e1.S.length:Int)))then
  (some true)
  else
  ((j3 nx tl1))

def gK:List (List am)->Option Bool
 |[]=>
  some false
 |e::tl=>
  if(decide ((20:Int)<(e.length:Int)))then
  (some true)
  else
  (j3 (gK tl) e)

def oq(l:(List (List am))):Option Bool:=
 if(decide ((10:Int)<(l.length:Int)))then
 (some true)
 else
 (gK l)

def rn(m:bR):Option Bool:=
  (ot m.Plan).bind fun r=>
  (if(!r)then((oq m.Packet.Batch.Rows).bind fun r1=>
  some r1)else some true).bind fun t=>
  some t

def jP(v:am):Option Bool:=
  if(v.Kind==(0:Int))then
  (some (decide (v=(⟨(0:Int),(0:Int),(0:Int),[]⟩:am))))
  else
  (if(v.Kind==(1:Int))then
  (some (((v.U==(0:Int))&&(v.S==([])))&&((v.N==(0:Int))||(v.N==(1:Int)))))
  else
  (if(v.Kind==(2:Int))then
  (some ((v.U==(0:Int))&&(v.S==([]))))
  else
  (if(v.Kind==(3:Int))then
  (some (((v.N==(0:Int))&&(v.U==(0:Int)))&&(decide ((v.S.length:Int)<=(40:Int)))))
  else
  (some ((v.Kind==(4:Int))&&(v.S==([])))))))

def lb(x1:Bool):Option Int:=
 if x1 then
 (some (1:Int))
 else
 (some (-1:Int))

def qE(op:Int)(x:Bool):Option Int:=
  if x then
  (some (2:Int))
  else
  (if(op==(3:Int))then
  (lb (op==(3:Int)))
  else
  (if(op==(4:Int))then
  (lb (op==(4:Int)))
  else
  (if(op==(5:Int))then
  (lb (op==(5:Int)))
  else
  (if(op==(6:Int))then
  (lb (op==(6:Int)))
  else
  (lb (op==(8:Int)))))))

def rW(op:Int):Option Int:=
  if(op==(1:Int))then
  (some (0:Int))
  else
  (if(op==(2:Int))then
  (qE op (op==(2:Int)))
  else
  (qE op (op==(7:Int))))

def tm(op:Int)(x:Bool):Option Int:=
  if x then
  (some (1:Int))
  else
  ((rW op).bind fun r=>
  some r)

def xq(op:Int):Option Int:=
  if(op==(9:Int))then
  (some (0:Int))
  else
  (if(op==(10:Int))then
  (tm op (op==(10:Int)))
  else
  (tm op (op==(11:Int))))

def gz:Nat->(List aa)->Int->Option Int
  |0,_,_=>none
  |fu+1,l,at1=>
    if((decide (at1<(0:Int)))||(decide ((l.length:Int)<=at1)))then
    (some (0:Int))
    else
    ((gR l at1).bind fun e=>
    (xq e.Op).bind fun r=>
    if(r==(0:Int))then
    (if((e.A==(-1:Int))&&(e.B==(-1:Int)))then
    (some (1:Int))
    else
    (some (0:Int)))
    else
    (if(r==(1:Int))then
    (((gz fu) l (IntKind.i64.wrap (at1-(1:Int)))).bind fun r1=>
    if(((e.A==(IntKind.i64.wrap (at1-(1:Int))))&&(e.B==(-1:Int)))&&(decide ((0:Int)<r1)))then
    (some (IntKind.i64.wrap (r1+(1:Int))))
    else
    (some (0:Int)))
    else
    (if(r==(2:Int))then
    (((gz fu) l (IntKind.i64.wrap (at1-(1:Int)))).bind fun r2=>
    if(((r2==(0:Int))||(e.B !=(IntKind.i64.wrap (at1-(1:Int)))))||(e.A !=(IntKind.i64.wrap ((IntKind.i64.wrap (at1-(1:Int)))-r2))))then
    (some (0:Int))
    else
    (((gz fu) l e.A).bind fun r3=>
    if(decide ((0:Int)<r3))then
    (some (IntKind.i64.wrap ((IntKind.i64.wrap (r3+r2))+(1:Int))))
    else
    (some (0:Int))))
    else
    (some (0:Int)))))

def vP(l:(List aa))(at1:Int):Option Int:=
 gz fh l at1

def oT(n:aa):Option Bool:=
  if((n.Op !=(1:Int))&&((n.Table !=(0:Int))||(decide ((0:Int)<(n.Kinds.length:Int)))))then
  (some false)
  else
  (if(((n.Op !=(2:Int))&&n.Left)||(((n.Op !=(2:Int))&&(n.Op !=(3:Int)))&&(decide ((0:Int)<(n.Cond.Nodes.length:Int)))))then
  (some false)
  else
  (if(((n.Op !=(4:Int))&&((decide ((0:Int)<(n.Keys.length:Int)))||(decide ((0:Int)<(n.Aggs.length:Int)))))||((n.Op !=(5:Int))&&(decide ((0:Int)<(n.Items.length:Int)))))then
  (some false)
  else
  (some ((n.Op==(8:Int))||(((n.Order.length:Int)==(0:Int))&&(n.Limit==(0:Int)))))))

def oQ(n:aa)(x:Bool):Option Bool:=
  if x then
  ((oT (aa.mk (4:Int) n.A n.B n.Table n.Kinds n.Left n.Cond n.Keys n.Aggs n.Items n.Order n.Limit)).bind fun r1=>
  some r1)
  else
  ((oT n).bind fun r2=>
  some r2)

def oR(n:aa):Option Bool:=
  if(n.Op==(9:Int))then
  ((oT (aa.mk (1:Int) n.A n.B n.Table n.Kinds n.Left n.Cond n.Keys n.Aggs n.Items n.Order n.Limit)).bind fun r=>
  some r)
  else
  (if(n.Op==(10:Int))then
  (oQ n (n.Op==(10:Int)))
  else
  (oQ n (n.Op==(11:Int))))

def oa(n:aa):List Int->Bool->Option ((List Int)×Bool)
 |[],ok=>
  some (n.Kinds,ok)
 |e::tl,ok=>
  (oa n tl) ((ok&&(decide ((0:Int)<=e)))&&(decide (e<=(4:Int))))

def xp(n:aa):Option ((List Int)×Bool):=
 oa n n.Kinds ((((decide ((0:Int)<=n.Table))&&(decide (n.Table<(30:Int))))&&(decide ((1:Int)<=(n.Kinds.length:Int))))&&(decide ((n.Kinds.length:Int)<=(16:Int))))

def uK:List Int->Option Bool
 |[]=>
  some false
 |e::tl=>
  if(e==(4:Int))then
  (some true)
  else
  ((uK tl))

def zF(kinds:(List Int)):Option Bool:=
 uK kinds

def y8(nx1:aP->Option aP)(out1:aP)(n1:ap):Option aP:=
 (app out1.Nodes ([n1])).bind fun l5=>
 nx1 ({out1 with Nodes:=l5}:aP)

def y9(out:aP)(nx1:aP->Option aP)(out1:aP)(n:ap):Option aP:=
 if(decide ((0:Int)<=n.R))then
 (y8 nx1 out1 (ap.mk n.Tag n.L (IntKind.i64.wrap (n.R+(out.Nodes.length:Int))) n.Col n.Value))
 else
 (y8 nx1 out1 n)

def uL(nx:Nat->ap->aP->Option aP)(i:Nat)(root1:ap)(out:aP):List ap->aP->Option aP
 |[],out1=>
  if((i:Int)==(0:Int))then
  (nx (i+1) (ap.mk root1.Tag (IntKind.i64.wrap ((out1.Nodes.length:Int)-(1:Int))) root1.R root1.Col root1.Value) out1)
  else
  (nx (i+1) (ap.mk root1.Tag root1.L (IntKind.i64.wrap ((out1.Nodes.length:Int)-(1:Int))) root1.Col root1.Value) out1)
 |e1::tl1,out1=>
  if(decide ((0:Int)<=e1.L))then
  (y9 out (uL nx i root1 out tl1) out1 (ap.mk e1.Tag (IntKind.i64.wrap (e1.L+(out.Nodes.length:Int))) e1.R e1.Col e1.Value))
  else
  (y9 out (uL nx i root1 out tl1) out1 e1)

def uM:List aP->Nat->ap->aP->Option aP
 |[],i,root1,out=>
  (app out.Nodes ([root1])).bind fun l2=>
  some ({out with Nodes:=l2}:aP)
 |e::tl,i,root1,out=>
  uL (uM tl) i root1 out e.Nodes out

def zI(root:ap)(l:(List aP)):Option aP:=
 uM l 0 (ap.mk root.Tag (-1:Int) (-1:Int) root.Col root.Value) ({(⟨[]⟩:aP)with Nodes:=([]:List ap)}:aP)

def dG:Nat->ie->Int->Option Int
  |0,_,_=>none
  |fu+1,l,at1=>
    if((decide (at1<(0:Int)))||(decide ((l.Nodes.length:Int)<=at1)))then
    (some (0:Int))
    else
    ((gR l.Nodes at1).bind fun e=>
    (rW e.Op).bind fun r=>
    if(r==(0:Int))then
    (if((e.A==(-1:Int))&&(e.B==(-1:Int)))then
    (some (1:Int))
    else
    (some (0:Int)))
    else
    (if(r==(1:Int))then
    (if((e.A==(IntKind.i64.wrap (at1-(1:Int))))&&(e.B==(-1:Int)))then
    (((dG fu) l e.A).bind fun r1=>
    if(decide ((0:Int)<r1))then
    (some (IntKind.i64.wrap (r1+(1:Int))))
    else
    (some (0:Int)))
    else
    (some (0:Int)))
    else
    (if(r==(2:Int))then
    (if(e.B==(IntKind.i64.wrap (at1-(1:Int))))then
    (((dG fu) l e.B).bind fun r2=>
    if((decide ((0:Int)<r2))&&(e.A==(IntKind.i64.wrap (e.B-r2))))then
    (((dG fu) l e.A).bind fun r3=>
    if(decide ((0:Int)<r3))then
    (some (IntKind.i64.wrap ((IntKind.i64.wrap (r3+r2))+(1:Int))))
    else
    (some (0:Int)))
    else
    (some (0:Int)))
    else
    (some (0:Int)))
    else
    (some (0:Int)))))

def Em(l:ie)(at1:Int):Option Int:=
 dG fh l at1

def CD(tag:Int):Option Int:=
  if((decide (tag<(1:Int)))||(decide ((23:Int)<tag)))then
  (some (-1:Int))
  else
  (if(decide (tag<=(3:Int)))then
  (some (0:Int))
  else
  (if(decide (tag<=(11:Int)))then
  (some (1:Int))
  else
  (some (2:Int))))

def xv(tag:Int):Option Int:=
  if((tag==(3:Int))||((decide ((8:Int)<=tag))&&(decide (tag<=(11:Int)))))then
  (some (-1:Int))
  else
  ((CD tag).bind fun r=>
  some r)

def xw(v:am):Option Bool:=
 (jP v).bind fun r=>
 some (r&&(v.Kind !=(4:Int)))

def kz(n:ap):Option Bool:=
  if(n.Tag==(1:Int))then
  ((xw n.Value).bind fun r=>
  some (r&&(n.Col==(0:Int))))
  else
  (if(n.Tag==(2:Int))then
  (some (((decide (n.Value=(⟨(0:Int),(0:Int),(0:Int),[]⟩:am)))&&(decide ((0:Int)<=n.Col)))&&(decide (n.Col<(16:Int)))))
  else
  (some ((decide (n.Value=(⟨(0:Int),(0:Int),(0:Int),[]⟩:am)))&&(n.Col==(0:Int)))))

def jC:Nat->aP->Int->Option Int
  |0,_,_=>none
  |fu+1,e,place=>
    if((decide (place<(0:Int)))||(decide ((e.Nodes.length:Int)<=place)))then
    (some (0:Int))
    else
    ((gR e.Nodes place).bind fun e1=>
    (xv e1.Tag).bind fun r=>
    (if(!(decide (r<(0:Int))))then((kz e1).bind fun r1=>
    some (!r1))else some true).bind fun t=>
    if t then
    (some (0:Int))
    else
    (if(r==(0:Int))then
    (if((e1.L !=(-1:Int))||(e1.R !=(-1:Int)))then
    (some (0:Int))
    else
    (some (1:Int)))
    else
    (((jC fu) e (IntKind.i64.wrap (place-(1:Int)))).bind fun r2=>
    if(r2==(0:Int))then
    (some (0:Int))
    else
    (if(r==(1:Int))then
    (if((e1.L !=(IntKind.i64.wrap (place-(1:Int))))||(e1.R !=(-1:Int)))then
    (some (0:Int))
    else
    (some (IntKind.i64.wrap (r2+(1:Int)))))
    else
    (((jC fu) e (IntKind.i64.wrap ((IntKind.i64.wrap (place-(1:Int)))-r2))).bind fun r3=>
    if(((r3==(0:Int))||(e1.R !=(IntKind.i64.wrap (place-(1:Int)))))||(e1.L !=(IntKind.i64.wrap ((IntKind.i64.wrap (place-(1:Int)))-r2))))then
    (some (0:Int))
    else
    (some (IntKind.i64.wrap ((IntKind.i64.wrap (r3+r2))+(1:Int)))))))))

def Ep(e:aP)(place:Int):Option Int:=
 jC fh e place

def xu(e:aP):Option Bool:=
  (if((decide ((1:Int)<=(e.Nodes.length:Int)))&&(decide ((e.Nodes.length:Int)<=(1000:Int))))then((Ep e (IntKind.i64.wrap ((e.Nodes.length:Int)-(1:Int)))).bind fun r=>
  some (r==(e.Nodes.length:Int)))else some false).bind fun t=>
  some t

def re(k:Int)(want:Int):Option Bool:=
 some ((k==want)||(k==(0:Int)))

def tn(tag:Int)(l:Int)(r:Int):Option (Int×Bool):=
  if((tag==(4:Int))||((decide ((12:Int)<=tag))&&(decide (tag<=(15:Int)))))then
  ((re l (2:Int)).bind fun r1=>
  (if r1 then((re r (2:Int)).bind fun r2=>
  some r2)else some false).bind fun t=>
  some ((2:Int),t))
  else
  (if((tag==(5:Int))||(decide ((22:Int)<=tag)))then
  ((re l (1:Int)).bind fun r3=>
  (if r3 then((re r (1:Int)).bind fun r4=>
  some r4)else some false).bind fun t1=>
  some ((1:Int),t1))
  else
  (if((tag==(6:Int))||(tag==(7:Int)))then
  (some ((1:Int),true))
  else
  (some ((1:Int),(((l==r)||(l==(0:Int)))||(r==(0:Int)))))))

def rA(nx2:(List Int)->Option (Int×Int))(e3:ap)(own:List Int)(e6:Int)(r1:Int):Option (Int×Int):=
  (tn e3.Tag e6 r1).bind fun r2=>
  if(!r2.2)then
  (some ((0:Int),(201:Int)))
  else
  ((app own ([r2.1])).bind fun own3=>
  nx2 own3)

def dH(kinds:(List Int)):List ap->(List Int)->Option (Int×Int)
  |[],own=>
    (gR own (IntKind.i64.wrap ((own.length:Int)-(1:Int)))).bind fun e4=>
    some (e4,(0:Int))
  |e3::tl2,own=>
    if(e3.Tag==(1:Int))then
    ((app own ([e3.Value.Kind])).bind fun own1=>
    (dH kinds tl2) own1)
    else
    (if(e3.Tag==(2:Int))then
    ((gR kinds e3.Col).bind fun e5=>
    (app own ([e5])).bind fun own2=>
    (dH kinds tl2) own2)
    else
    ((gR own e3.L).bind fun e6=>
    if(decide ((0:Int)<=e3.R))then
    ((gR own e3.R).bind fun e7=>
    rA (dH kinds tl2) e3 own e6 e7)
    else
    (rA (dH kinds tl2) e3 own e6 (0:Int))))

def px(e:aP)(kinds:(List Int)):List ap->Option (Int×Int)
 |[]=>
  dH kinds e.Nodes ([]:List Int)
 |e2::tl1=>
  if((e2.Tag==(2:Int))&&(decide ((kinds.length:Int)<=e2.Col)))then
  (some ((0:Int),(2:Int)))
  else
  ((px e kinds tl1))

def rz(e:aP)(kinds:(List Int)):List Int->Option (Int×Int)
 |[]=>
  px e kinds e.Nodes
 |e1::tl=>
  if((decide (e1<(0:Int)))||(decide ((3:Int)<e1)))then
  (some ((0:Int),(2:Int)))
  else
  ((rz e kinds tl))

def tp(e:aP)(kinds:(List Int)):Option (Int×Int):=
 (xu e).bind fun r=>
 if(!r)then
 (some ((0:Int),(200:Int)))
 else
 (rz e kinds kinds)

def ug(e:aP)(kinds:(List Int)):Option Bool:=
 (tp e kinds).bind fun r=>
 some ((r.2==(0:Int))&&((r.1==(0:Int))||(r.1==(1:Int))))

def m9(a1:eS)(kinds:(List Int)):Option (Int×Bool):=
  if(a1.Tag==(1:Int))then
  (some ((2:Int),((a1.Arg.Nodes.length:Int)==(0:Int))))
  else
  ((tp a1.Arg kinds).bind fun r=>
  if(((decide (a1.Tag<(1:Int)))||(decide ((5:Int)<a1.Tag)))||(r.2 !=(0:Int)))then
  (some ((0:Int),false))
  else
  (if(((a1.Tag==(3:Int))&&(r.1 !=(2:Int)))&&(r.1 !=(0:Int)))then
  (some ((0:Int),false))
  else
  (if(decide ((4:Int)<=a1.Tag))then
  (some (r.1,true))
  else
  (some ((2:Int),true)))))

def jO(n:aa):Nat->Bool->Int->Option ((List Int)×Bool)
  |0,_,_=>none
  |n1+1,ok,i=>
    if(decide (i<(n.Kinds.length:Int)))then
    ((if ok then((gR n.Kinds i).bind fun e=>
    some (decide ((1:Int)<=e)))else some false).bind fun t=>
    (if t then((gR n.Kinds i).bind fun e1=>
    some (decide (e1<=(3:Int))))else some false).bind fun t1=>
    (jO n n1) t1 (IntKind.i64.wrap (i+(1:Int))))
    else
    (some (n.Kinds,((((ok&&(decide ((0:Int)<=n.Table)))&&(decide (n.Table<=(3:Int))))&&(decide ((1:Int)<=(n.Kinds.length:Int))))&&(decide ((n.Kinds.length:Int)<=(4:Int))))))

def mB(n:aa)(a1:(List Int)):Nat->(List Int)->Bool->Int->Option ((List Int)×Bool)
  |0,_,_,_=>none
  |n3+1,out3,ok1,i2=>
    if(decide (i2<(n.Aggs.length:Int)))then
    ((gR n.Aggs i2).bind fun e4=>
    (m9 e4 a1).bind fun r2=>
    (app out3 ([r2.1])).bind fun out4=>
    (mB n a1 n3) out4 (ok1&&r2.2) (IntKind.i64.wrap (i2+(1:Int))))
    else
    (some (out3,(((ok1&&(decide ((n.Keys.length:Int)<=(3:Int))))&&(decide ((n.Aggs.length:Int)<=(12:Int))))&&(decide ((0:Int)<(out3.length:Int))))))

def mC(n:aa)(a1:(List Int)):Nat->(List Int)->Int->Option ((List Int)×Bool)
  |0,_,_=>none
  |n2+1,out1,i1=>
    if(decide (i1<(n.Keys.length:Int)))then
    ((gR n.Keys i1).bind fun e2=>
    if((decide (e2<(0:Int)))||(decide ((a1.length:Int)<=e2)))then
    (some ([],false))
    else
    ((gR a1 e2).bind fun e3=>
    (app out1 ([e3])).bind fun out2=>
    (mC n a1 n2) out2 (IntKind.i64.wrap (i1+(1:Int)))))
    else
    (mB n a1 fh out1 true (0:Int))

def mA(n:aa)(a1:(List Int)):Nat->(List Int)->Bool->Int->Option ((List Int)×Bool)
  |0,_,_,_=>none
  |n4+1,out5,ok2,i3=>
    if(decide (i3<(n.Items.length:Int)))then
    ((gR n.Items i3).bind fun e5=>
    (tp e5 a1).bind fun r3=>
    (app out5 ([r3.1])).bind fun out6=>
    (mA n a1 n4) out6 (ok2&&(r3.2==(0:Int))) (IntKind.i64.wrap (i3+(1:Int))))
    else
    (some (out5,((ok2&&(decide ((1:Int)<=(out5.length:Int))))&&(decide ((out5.length:Int)<=(16:Int))))))

def qD(b:(List Int))(nx4:Nat->(List Int)->Bool->Option ((List Int)×Bool))(i4:Nat)(out7:List Int)(ok3:Bool)(k:Int):Option ((List Int)×Bool):=
  (app out7 ([k])).bind fun out8=>
  (if ok3 then((gR b (i4:Int)).bind fun e7=>
  (if(!(e7==k))then((gR b (i4:Int)).bind fun e8=>
  some (e8==(0:Int)))else some true).bind fun t3=>
  some t3)else some false).bind fun t2=>
  nx4 (i4+1) out8 t2

def la(b:(List Int)):List Int->Nat->(List Int)->Bool->Option ((List Int)×Bool)
  |[],i4,out7,ok3=>
    some (out7,ok3)
  |e6::tl,i4,out7,ok3=>
    if(e6==(0:Int))then
    ((gR b (i4:Int)).bind fun e9=>
    qD b (la b tl) i4 out7 ok3 e9)
    else
    (qD b (la b tl) i4 out7 ok3 e6)

def jN(n:aa)(a1:(List Int)):Nat->Bool->Int->Option ((List Int)×Bool)
  |0,_,_=>none
  |n5+1,ok4,i5=>
    if(decide (i5<(n.Order.length:Int)))then
    ((if ok4 then((gR n.Order i5).bind fun e10=>
    some (decide ((0:Int)<=e10.Col)))else some false).bind fun t4=>
    (if t4 then((gR n.Order i5).bind fun e11=>
    some (decide (e11.Col<(a1.length:Int))))else some false).bind fun t5=>
    (jN n a1 n5) t5 (IntKind.i64.wrap (i5+(1:Int))))
    else
    (some (a1,(((ok4&&(decide ((n.Order.length:Int)<=(3:Int))))&&(decide ((-1:Int)<=n.Limit)))&&(decide (n.Limit<=(2147483647:Int))))))

def cC(n:aa)(a1:(List Int))(b:(List Int)):Option ((List Int)×Bool):=
  if(n.Op==(1:Int))then
  (jO n fh true (0:Int))
  else
  (if(n.Op==(2:Int))then
  ((app ([]:List Int) a1).bind fun l=>
  (app l b).bind fun out=>
  (ug n.Cond out).bind fun r=>
  some (out,r))
  else
  (if(n.Op==(3:Int))then
  ((ug n.Cond a1).bind fun r1=>
  some (a1,r1))
  else
  (if(n.Op==(4:Int))then
  (mC n a1 fh ([]:List Int) (0:Int))
  else
  (if(n.Op==(5:Int))then
  (mA n a1 fh ([]:List Int) true (0:Int))
  else
  (if(n.Op==(6:Int))then
  (some (a1,true))
  else
  (if(n.Op==(7:Int))then
  (if((a1.length:Int) !=(b.length:Int))then
  (some ([],false))
  else
  (la b a1 0 ([]:List Int) true))
  else
  (jN n a1 fh true (0:Int))))))))

def lc(l:ie)(at1:Int)(e1:aa)(a1:(List Int))(b1:(List Int)):Option ((List Int)×Bool):=
 (cC e1 a1 b1).bind fun r2=>
 if(((e1.Op==(8:Int))&&(at1 !=(IntKind.i64.wrap ((l.Nodes.length:Int)-(1:Int)))))||(decide ((16:Int)<(r2.1.length:Int))))then
 (some ([],false))
 else
 (some (r2.1,r2.2))

def mD(self__:ie->Int->Option ((List Int)×Bool))(l:ie)(at1:Int)(e1:aa)(a1:(List Int)):Option ((List Int)×Bool):=
  if(decide ((0:Int)<=e1.B))then
  ((self__ l e1.B).bind fun r3=>
  if(!r3.2)then
  (some ([],false))
  else
  (lc l at1 e1 a1 r3.1))
  else
  (lc l at1 e1 a1 ([]))

def gY:Nat->ie->Int->Option ((List Int)×Bool)
  |0,_,_=>none
  |fu+1,l,at1=>
    (Em l at1).bind fun r=>
    (if(!(r==(0:Int)))then((gR l.Nodes at1).bind fun e=>
    (oT e).bind fun r1=>
    some (!r1))else some true).bind fun t=>
    if t then
    (some ([],false))
    else
    ((gR l.Nodes at1).bind fun e1=>
    if(decide ((0:Int)<=e1.A))then
    (((gY fu) l e1.A).bind fun r4=>
    if(!r4.2)then
    (some ([],false))
    else
    (mD (gY fu) l at1 e1 r4.1))
    else
    (mD (gY fu) l at1 e1 ([])))

def od(l:ie)(at1:Int):Option ((List Int)×Bool):=
 gY fh l at1

def nJ(nx1:aa->Option ((List Int)×Bool))(p:aa)(e2:ap):Option ((List Int)×Bool):=
 (zI e2 ([])).bind fun r2=>
 (app p.Items ([r2])).bind fun l7=>
 nx1 ({p with Items:=l7}:aa)

def dX(nx:Nat->aa->ie->Option ((List Int)×Bool))(i:Nat)(n1:aa)(l:ie):List Int->aa->Option ((List Int)×Bool)
 |[],p=>
  (app l.Nodes ([(⟨(1:Int),(-1:Int),(-1:Int),(0:Int),[(1:Int),(2:Int),(3:Int)],false,(⟨[]⟩:aP),[],[],[],[],(0:Int)⟩:aa),p])).bind fun l5=>
  if((i:Int)==(0:Int))then
  (nx (i+1) (aa.mk n1.Op (IntKind.i64.wrap ((l5.length:Int)-(1:Int))) n1.B n1.Table n1.Kinds n1.Left n1.Cond n1.Keys n1.Aggs n1.Items n1.Order n1.Limit) ({l with Nodes:=l5}:ie))
  else
  (nx (i+1) (aa.mk n1.Op n1.A (IntKind.i64.wrap ((l5.length:Int)-(1:Int))) n1.Table n1.Kinds n1.Left n1.Cond n1.Keys n1.Aggs n1.Items n1.Order n1.Limit) ({l with Nodes:=l5}:ie))
 |e1::tl1,p=>
  if(decide ((0:Int)<e1))then
  (nJ (dX nx i n1 l tl1) p (⟨(2:Int),(0:Int),(0:Int),(IntKind.i64.wrap (e1-(1:Int))),(⟨(0:Int),(0:Int),(0:Int),[]⟩:am)⟩:ap))
  else
  (nJ (dX nx i n1 l tl1) p (⟨(1:Int),(0:Int),(0:Int),(0:Int),(⟨(0:Int),(0:Int),(0:Int),[]⟩:am)⟩:ap))

def bX:List (List Int)->Nat->aa->ie->Option ((List Int)×Bool)
 |[],i,n1,l=>
  (app l.Nodes ([n1])).bind fun l2=>
  (od ({l with Nodes:=l2}:ie) (IntKind.i64.wrap ((l2.length:Int)-(1:Int)))).bind fun r=>
  some (r.1,r.2)
 |e::tl,i,n1,l=>
  (zF e).bind fun r1=>
  if r1 then
  (some ([],false))
  else
  (dX (bX tl) i n1 l e ({(⟨(5:Int),(l.Nodes.length:Int),(-1:Int),(0:Int),[],false,(⟨[]⟩:aP),[],[],[],[],(0:Int)⟩:aa)with Items:=([]:List aP)}:aa))

def dE(n:aa)(parts:(List (List Int))):Option ((List Int)×Bool):=
 bX parts 0 n ({(⟨[]⟩:ie)with Nodes:=([]:List aa)}:ie)

def mz(n:aa):List eS->Nat->(List Int)->Option (List Int)
  |[],i,out1=>
    some out1
  |e::tl,i,out1=>
    if(e.Tag==(3:Int))then
    ((gR out1 (IntKind.i64.wrap ((n.Keys.length:Int)+(i:Int)))).bind fun e1=>
    (some (out1.set (IntKind.i64.wrap ((n.Keys.length:Int)+(i:Int))).toNat (4:Int))).bind fun st=>
    (mz n tl) (i+1) st)
    else
    ((mz n tl) (i+1) out1)

def pu(n:aa)(kinds:(List Int)):Option (List Int):=
 (app ([]:List Int) kinds).bind fun out=>
 mz n n.Aggs 0 out

def qA(nx1:Nat->(List Int)->Option ((List Int)×Bool))(i1:Nat)(out1:List Int)(e2:Int)(x1:Bool):Option ((List Int)×Bool):=
  if x1 then
  (if(e2==(4:Int))then
  (some ([],false))
  else
  ((app out1 ([e2])).bind fun out4=>
  nx1 (i1+1) out4))
  else
  (some ([],false))

def qB(nx1:Nat->(List Int)->Option ((List Int)×Bool))(i1:Nat)(e1:eS)(out1:List Int)(e2:Int)(x:Bool):Option ((List Int)×Bool):=
  if x then
  (if(e2 !=(2:Int))then
  (some ([],false))
  else
  ((app out1 ([e2])).bind fun out2=>
  nx1 (i1+1) out2))
  else
  (if(e1.Tag==(3:Int))then
  (if(e2 !=(4:Int))then
  (some ([],false))
  else
  ((app out1 ([(2:Int)])).bind fun out3=>
  nx1 (i1+1) out3))
  else
  (if(e1.Tag==(4:Int))then
  (qA nx1 i1 out1 e2 (e1.Tag==(4:Int)))
  else
  (qA nx1 i1 out1 e2 (e1.Tag==(5:Int)))))

def gW(n:aa)(a1:(List Int)):List eS->Nat->(List Int)->Option ((List Int)×Bool)
  |[],i1,out1=>
    some (out1,true)
  |e1::tl1,i1,out1=>
    (gR a1 (IntKind.i64.wrap ((n.Keys.length:Int)+(i1:Int)))).bind fun e2=>
    if(decide ((0:Int)<(e1.Arg.Nodes.length:Int)))then
    (some ([],false))
    else
    (if(e1.Tag==(1:Int))then
    (qB (gW n a1 tl1) i1 e1 out1 e2 (e1.Tag==(1:Int)))
    else
    (qB (gW n a1 tl1) i1 e1 out1 e2 (e1.Tag==(2:Int))))

def oc(n:aa)(a1:(List Int)):List Int->Nat->(List Int)->Option ((List Int)×Bool)
  |[],i,out=>
    gW n a1 n.Aggs 0 out
  |e::tl,i,out=>
    (if(!(e !=(i:Int)))then((gR a1 (i:Int)).bind fun e3=>
    some (e3==(4:Int)))else some true).bind fun t=>
    if t then
    (some ([],false))
    else
    ((gR a1 (i:Int)).bind fun e4=>
    (app out ([e4])).bind fun out5=>
    (oc n a1 tl) (i+1) out5)

def qa(n:aa)(a1:(List Int)):Option ((List Int)×Bool):=
 if((((decide ((3:Int)<(n.Keys.length:Int)))||(decide ((12:Int)<(n.Aggs.length:Int))))||((IntKind.i64.wrap ((n.Keys.length:Int)+(n.Aggs.length:Int))) !=(a1.length:Int)))||((a1.length:Int)==(0:Int)))then
 (some ([],false))
 else
 (oc n a1 n.Keys 0 ([]:List Int))

def dr(l:(List aa))(nx:Nat->(List (List Int))->Option ((List (List Int))×Int))(i:Nat)(e:aa)(out:List (List Int))(ok:Bool)(k:(List Int)):Option ((List (List Int))×Int):=
  if((!ok)||(((e.Op==(8:Int))||(e.Op==(10:Int)))&&((i:Int) !=(IntKind.i64.wrap ((l.length:Int)-(1:Int))))))then
  (some ([],(i:Int)))
  else
  ((app out ([k])).bind fun out1=>
  nx (i+1) out1)

def dZ(l:(List aa))(nx:Nat->(List (List Int))->Option ((List (List Int))×Int))(i:Nat)(e:aa)(out:List (List Int))(parts1:List (List Int)):Option ((List (List Int))×Int):=
  if(e.Op==(9:Int))then
  ((xp e).bind fun r3=>
  dr l nx i e out r3.2 r3.1)
  else
  (if(e.Op==(10:Int))then
  ((dE (aa.mk (4:Int) e.A e.B e.Table e.Kinds e.Left e.Cond e.Keys e.Aggs e.Items e.Order e.Limit) parts1).bind fun r4=>
  if r4.2 then
  ((pu e r4.1).bind fun r5=>
  dr l nx i e out r4.2 r5)
  else
  (dr l nx i e out r4.2 r4.1))
  else
  (if(e.Op==(11:Int))then
  ((gR parts1 (0:Int)).bind fun e1=>
  (qa e e1).bind fun r6=>
  (if r6.2 then((gR l e.A).bind fun e2=>
  some (e2.Op==(9:Int)))else some false).bind fun t1=>
  dr l nx i e out t1 r6.1)
  else
  (if(e.Op==(1:Int))then
  ((dE e ([])).bind fun r7=>
  dr l nx i e out r7.2 r7.1)
  else
  ((dE e parts1).bind fun r8=>
  dr l nx i e out r8.2 r8.1))))

def qC(l:(List aa))(nx:Nat->(List (List Int))->Option ((List (List Int))×Int))(i:Nat)(e:aa)(out:List (List Int))(parts:List (List Int)):Option ((List (List Int))×Int):=
  if(decide ((0:Int)<=e.B))then
  ((gR out e.B).bind fun e3=>
  (app parts ([e3])).bind fun parts2=>
  dZ l nx i e out parts2)
  else
  (dZ l nx i e out parts)

def dg(l:(List aa)):List aa->Nat->(List (List Int))->Option ((List (List Int))×Int)
  |[],i,out=>
    (vP l (IntKind.i64.wrap ((l.length:Int)-(1:Int)))).bind fun r=>
    if(r !=(l.length:Int))then
    (some ([],(IntKind.i64.wrap ((l.length:Int)-(1:Int)))))
    else
    (some (out,(-1:Int)))
  |e::tl,i,out=>
    (vP l (i:Int)).bind fun r1=>
    (if(decide ((0:Int)<r1))then((oR e).bind fun r2=>
    some r2)else some false).bind fun t=>
    if t then
    (if(decide ((0:Int)<=e.A))then
    ((gR out e.A).bind fun e4=>
    (app ([]:List (List Int)) ([e4])).bind fun parts3=>
    qC l (dg l tl) i e out parts3)
    else
    (qC l (dg l tl) i e out ([]:List (List Int))))
    else
    (dr l (dg l tl) i e out t ([]))

def rU(l:(List aa)):Option ((List (List Int))×Int):=
 if((decide ((l.length:Int)<(1:Int)))||(decide ((60:Int)<(l.length:Int))))then
 (some ([],(0:Int)))
 else
 (dg l l 0 ([]:List (List Int)))

def tv(b:(List Int)):Option af:=
 (vI (b.length:Int) (0:Int)).bind fun mk=>
 (some (ph mk b)).bind fun cp=>
 some ({(⟨(⟨(0:Int),(0:Int)⟩:lZ),mk⟩:af)with own:=cp}:af)

def v8(b:(List Int)):Option (aK×af):=
 (tv b).bind fun r=>
 some ((⟨(⟨(⟨(0:Int),(0:Int)⟩:lZ),[]⟩:af),b,false⟩:aK),r)

def q5(x:Int)(c:Int):Option Int:=
 some (IntKind.u64.wrap ((IntKind.u64.wrap (x*2^(min (Int.toNat (8:Int)) IntKind.u64.bits)))+(IntKind.u64.wrap c)))

def fY(r:af):Option Int:=
 if false then
 (some (0:Int))
 else
 (some (IntKind.i64.wrap ((r.own.length:Int)-r.place.at_)))

def fM(n:Int):Nat->Int->Int->af->Option (af×Int)
  |0,_,_,_=>none
  |n1+1,x1,x2,ob=>
    if(decide (x1<n))then
    ((gR ob.own ob.place.at_).bind fun e=>
    (q5 x2 e).bind fun r2=>
    (fM n n1) (IntKind.i64.wrap (x1+(1:Int))) r2 ({ob with place:=({ob.place with at_:=(IntKind.i64.wrap (ob.place.at_+(1:Int)))}:lZ)}:af))
    else
    (some (ob,x2))

def nH(r:af)(n:Int)(x:Int):Option (af×Int):=
  if(r.place.why !=(0:Int))then
  (some (r,x))
  else
  (if(decide (n<(0:Int)))then
  (some (({r with place:=({r.place with why:=(2:Int)}:lZ)}:af),x))
  else
  ((fY r).bind fun r1=>
  if(decide (r1<n))then
  (some (({r with place:=({r.place with why:=(7:Int)}:lZ)}:af),x))
  else
  (fM n fh (0:Int) x r)))

def cm(r:af)(n:Int):Option (Int×af):=
 (nH r n (0:Int)).bind fun r1=>
 some (r1.2,r1.1)

def ck(r:af):Option (Int×af):=
 (cm r (1:Int)).bind fun r1=>
 some ((IntKind.u8.wrap r1.1),r1.2)

def aO(r:aK)(in1:af):Option (Int×af):=
 (ck in1).bind fun r1=>
 some ((IntKind.i64.wrap r1.1),r1.2)

def fN(r:af):Option Int:=
 if false then
 (some (1:Int))
 else
 (some r.place.why)

def c7(r:aK)(in1:af):Option Bool:=
  if(!r.bad)then
  ((fN in1).bind fun r1=>
  some (r1==(0:Int)))
  else
  (some false)

def ov(out:List Int)(ob:af):Option ((List Int)×af):=
 some (out,ob)

def iq(r:aK)(n:Int):Nat->(List Int)->Int->af->Option ((List Int)×af)
  |0,_,_,_=>none
  |n1+1,out1,x,ob1=>
    if(decide (x<n))then
    ((c7 r ob1).bind fun r1=>
    if(!r1)then
    (ov out1 ob1)
    else
    ((aO r ob1).bind fun r2=>
    (app out1 ([r2.1])).bind fun out2=>
    (iq r n n1) out2 (IntKind.i64.wrap (x+(1:Int))) r2.2))
    else
    (ov out1 ob1)

def lN(r:aK)(in1:af)(n:Int):Option ((List Int)×af):=
 iq r n fh ([]:List Int) (0:Int) in1

def ip(r:aK)(in1:af):Option ((List Int)×af):=
 (aO r in1).bind fun r1=>
 (lN r r1.2 r1.1).bind fun r2=>
 some (r2.1,r2.2)

def ff(r:aK)(in1:af):Option (Bool×aK×af):=
 (ck in1).bind fun r1=>
 some ((r1.1==(1:Int)),({r with bad:=(r.bad||(decide ((1:Int)<r1.1)))}:aK),r1.2)

def kR(r:af):Option (Int×af):=
 (cm r (4:Int)).bind fun r1=>
 some ((IntKind.u32.wrap r1.1),r1.2)

def io(r:af):Option (Int×af):=
 (cm r (2:Int)).bind fun r1=>
 some ((IntKind.u16.wrap r1.1),r1.2)

def nf(t:(List Int)):Option (Int×(List Int)):=
  if((t.length:Int)==(0:Int))then
  (some ((-1:Int),t))
  else
  ((gR t (IntKind.i64.wrap ((t.length:Int)-(1:Int)))).bind fun e=>
  (dV t 0 (IntKind.i64.wrap ((t.length:Int)-(1:Int)))).bind fun y=>
  some (e,y))

def jj(at1:Int)(b3:Int)(a1:Int)(x1:List Int)(ob1:aK):Option (Int×Int×aK×(List Int)):=
 (app x1 ([at1])).bind fun l3=>
 some (a1,b3,ob1,l3)

def ln(n:Int)(at1:Int)(b3:Int)(x:List Int)(ob:aK):Option (Int×Int×aK×(List Int)):=
  if(decide ((1:Int)<=n))then
  ((nf x).bind fun r1=>
  jj at1 b3 r1.1 r1.2 ({ob with bad:=(ob.bad||(decide (r1.1<(0:Int))))}:aK))
  else
  (jj at1 b3 (-1:Int) x ob)

def cI(r:aK)(in1:af)(t:(List Int))(n:Int)(at1:Int):Option (Int×Int×aK×(List Int)):=
  if(n==(2:Int))then
  ((nf t).bind fun r2=>
  ln n at1 r2.1 r2.2 ({r with bad:=(r.bad||(decide (r2.1<(0:Int))))}:aK))
  else
  (ln n at1 (-1:Int) t r)

def iM(r:aK)(in1:af):Option (List Int):=
 (fY in1).bind fun r1=>
 (dV r.all (IntKind.i64.wrap ((r.all.length:Int)-r1)) (r.all.length:Int)).bind fun y=>
 some y

def pT(out:(List Int))(c:Int):Option (List Int):=
 (app out ([c])).bind fun l1=>
 some l1

def fL(n:Int):Nat->Int->(List Int)->af->Option (af×(List Int))
  |0,_,_,_=>none
  |n1+1,x,x1,ob=>
    if(decide (x<n))then
    ((gR ob.own ob.place.at_).bind fun e=>
    (pT x1 e).bind fun r2=>
    (fL n n1) (IntKind.i64.wrap (x+(1:Int))) r2 ({ob with place:=({ob.place with at_:=(IntKind.i64.wrap (ob.place.at_+(1:Int)))}:lZ)}:af))
    else
    (some (ob,x1))

def nG(r:af)(n:Int)(out:(List Int)):Option (af×(List Int)):=
  if(r.place.why !=(0:Int))then
  (some (r,out))
  else
  (if(decide (n<(0:Int)))then
  (some (({r with place:=({r.place with why:=(2:Int)}:lZ)}:af),out))
  else
  ((fY r).bind fun r1=>
  if(decide (r1<n))then
  (some (({r with place:=({r.place with why:=(7:Int)}:lZ)}:af),out))
  else
  (fL n fh (0:Int) out r)))

def jr(r:af)(n:Int):Option ((List Int)×af):=
 (nG r n ([]:List Int)).bind fun r1=>
 some (r1.2,r1.1)

def fZ(r:aK)(in1:af)(n:Int)(e:Int):Option (aK×af):=
  if(e !=(0:Int))then
  (some (({r with bad:=true}:aK),in1))
  else
  ((jr in1 n).bind fun r1=>
  some (r,r1.2))

def tH(b:(List Int)):Option (cB×af):=
 (tv b).bind fun r=>
 some ((⟨(⟨(⟨(0:Int),(0:Int)⟩:lZ),[]⟩:af),(b.length:Int),false⟩:cB),r)

def dx(r:af):Option (Int×af):=
 (cm r (8:Int)).bind fun r1=>
 some (r1.1,r1.2)

def cE(t:cB)(in1:af)(is1:Bool):Option cB:=
  if t.bad then
  (some ({t with bad:=true}:cB))
  else
  ((fN in1).bind fun r=>
  some ({t with bad:=((r==(0:Int))&&(!is1))}:cB))

def d7(t:cB)(in1:af):Option Bool:=
  if(!t.bad)then
  ((fN in1).bind fun r=>
  some (r==(0:Int)))
  else
  (some false)

def j9(t:cB)(in1:af):Option (am×cB×af):=
  (ck in1).bind fun r=>
  (cE t r.2 (decide ((IntKind.i64.wrap r.1)<=(4:Int)))).bind fun r1=>
  (d7 r1 r.2).bind fun r2=>
  if(!r2)then
  (some ((am.mk (IntKind.i64.wrap r.1) (⟨(0:Int),(0:Int),(0:Int),[]⟩:am).N (⟨(0:Int),(0:Int),(0:Int),[]⟩:am).U (⟨(0:Int),(0:Int),(0:Int),[]⟩:am).S),r1,r.2))
  else
  (if((IntKind.i64.wrap r.1)==(1:Int))then
  ((ck r.2).bind fun r3=>
  (ii (am.mk (IntKind.i64.wrap r.1) (IntKind.i64.wrap r3.1) (⟨(0:Int),(0:Int),(0:Int),[]⟩:am).U (⟨(0:Int),(0:Int),(0:Int),[]⟩:am).S)).bind fun r4=>
  (cE r1 r3.2 (r4==(0:Int))).bind fun r5=>
  some ((am.mk (IntKind.i64.wrap r.1) (IntKind.i64.wrap r3.1) (⟨(0:Int),(0:Int),(0:Int),[]⟩:am).U (⟨(0:Int),(0:Int),(0:Int),[]⟩:am).S),r5,r3.2))
  else
  (if((IntKind.i64.wrap r.1)==(2:Int))then
  ((dx r.2).bind fun r6=>
  (ii (am.mk (IntKind.i64.wrap r.1) (IntKind.i64.wrap r6.1) (⟨(0:Int),(0:Int),(0:Int),[]⟩:am).U (⟨(0:Int),(0:Int),(0:Int),[]⟩:am).S)).bind fun r7=>
  (cE r1 r6.2 (r7==(0:Int))).bind fun r8=>
  some ((am.mk (IntKind.i64.wrap r.1) (IntKind.i64.wrap r6.1) (⟨(0:Int),(0:Int),(0:Int),[]⟩:am).U (⟨(0:Int),(0:Int),(0:Int),[]⟩:am).S),r8,r6.2))
  else
  (if((IntKind.i64.wrap r.1)==(3:Int))then
  ((ck r.2).bind fun r9=>
  (cE r1 r9.2 (decide ((IntKind.i64.wrap r9.1)<=(40:Int)))).bind fun r10=>
  (d7 r10 r9.2).bind fun r11=>
  if r11 then
  ((jr r9.2 (IntKind.i64.wrap r9.1)).bind fun r12=>
  (ii (am.mk (IntKind.i64.wrap r.1) (⟨(0:Int),(0:Int),(0:Int),[]⟩:am).N (⟨(0:Int),(0:Int),(0:Int),[]⟩:am).U (pg r12.1))).bind fun r13=>
  (cE r10 r12.2 (r13==(0:Int))).bind fun r14=>
  some ((am.mk (IntKind.i64.wrap r.1) (⟨(0:Int),(0:Int),(0:Int),[]⟩:am).N (⟨(0:Int),(0:Int),(0:Int),[]⟩:am).U (pg r12.1)),r14,r12.2))
  else
  ((ii (am.mk (IntKind.i64.wrap r.1) (⟨(0:Int),(0:Int),(0:Int),[]⟩:am).N (⟨(0:Int),(0:Int),(0:Int),[]⟩:am).U (⟨(0:Int),(0:Int),(0:Int),[]⟩:am).S)).bind fun r15=>
  (cE r10 r9.2 (r15==(0:Int))).bind fun r16=>
  some ((am.mk (IntKind.i64.wrap r.1) (⟨(0:Int),(0:Int),(0:Int),[]⟩:am).N (⟨(0:Int),(0:Int),(0:Int),[]⟩:am).U (⟨(0:Int),(0:Int),(0:Int),[]⟩:am).S),r16,r9.2)))
  else
  (if((IntKind.i64.wrap r.1)==(4:Int))then
  ((dx r.2).bind fun r17=>
  (dx r17.2).bind fun r18=>
  (ii (am.mk (IntKind.i64.wrap r.1) (IntKind.i64.wrap r17.1) r18.1 (⟨(0:Int),(0:Int),(0:Int),[]⟩:am).S)).bind fun r19=>
  (cE r1 r18.2 (r19==(0:Int))).bind fun r20=>
  some ((am.mk (IntKind.i64.wrap r.1) (IntKind.i64.wrap r17.1) r18.1 (⟨(0:Int),(0:Int),(0:Int),[]⟩:am).S),r20,r18.2))
  else
  ((ii (am.mk (IntKind.i64.wrap r.1) (⟨(0:Int),(0:Int),(0:Int),[]⟩:am).N (⟨(0:Int),(0:Int),(0:Int),[]⟩:am).U (⟨(0:Int),(0:Int),(0:Int),[]⟩:am).S)).bind fun r21=>
  (cE r1 r.2 (r21==(0:Int))).bind fun r22=>
  some ((am.mk (IntKind.i64.wrap r.1) (⟨(0:Int),(0:Int),(0:Int),[]⟩:am).N (⟨(0:Int),(0:Int),(0:Int),[]⟩:am).U (⟨(0:Int),(0:Int),(0:Int),[]⟩:am).S),r22,r.2))))))

def lp(t:cB)(in1:af)(p:am):Option (am×Int×Int):=
  if t.bad then
  (some ((⟨(0:Int),(0:Int),(0:Int),[]⟩:am),(0:Int),(160:Int)))
  else
  ((fN in1).bind fun r=>
  if(r !=(0:Int))then
  ((fN in1).bind fun r1=>
  some ((⟨(0:Int),(0:Int),(0:Int),[]⟩:am),(0:Int),r1))
  else
  ((fY in1).bind fun r2=>
  some (p,(IntKind.i64.wrap (t.all-r2)),(0:Int))))

def pK(b:(List Int)):Option (am×Int×Int):=
 (tH b).bind fun r=>
 (j9 r.1 r.2).bind fun r1=>
 (lp r1.2.1 r1.2.2 r1.1).bind fun r2=>
 some (r2.1,r2.2.1,r2.2.2)

def jt(r:aK)(in1:af):Option (am×aK×af):=
 (iM r in1).bind fun r1=>
 (pK r1).bind fun r2=>
 (fZ r in1 r2.2.1 r2.2.2).bind fun r3=>
 some (r2.1,r3.1,r3.2)

def qi(tag:Int):Option Int:=
  if((tag==(1:Int))||(tag==(2:Int)))then
  (some (0:Int))
  else
  (if(decide ((12:Int)<=tag))then
  (some (2:Int))
  else
  (some (1:Int)))

def ml(r:aK)(in1:af)(t:(List Int))(at1:Int):Option (ap×aK×af×(List Int)×Int):=
  (aO r in1).bind fun r1=>
  if(((⟨r1.1,(0:Int),(0:Int),(0:Int),(⟨(0:Int),(0:Int),(0:Int),[]⟩:am)⟩:ap).Tag)==(2:Int))then
  ((aO r r1.2).bind fun r2=>
  (qi ((⟨r1.1,(0:Int),(0:Int),(0:Int),(⟨(0:Int),(0:Int),(0:Int),[]⟩:am)⟩:ap).Tag)).bind fun r3=>
  (cI r r2.2 t r3 at1).bind fun r4=>
  some ((ap.mk ({(ap.mk (⟨r1.1,(0:Int),(0:Int),(0:Int),(⟨(0:Int),(0:Int),(0:Int),[]⟩:am)⟩:ap).Tag (⟨r1.1,(0:Int),(0:Int),(0:Int),(⟨(0:Int),(0:Int),(0:Int),[]⟩:am)⟩:ap).L (⟨r1.1,(0:Int),(0:Int),(0:Int),(⟨(0:Int),(0:Int),(0:Int),[]⟩:am)⟩:ap).R r2.1 (⟨r1.1,(0:Int),(0:Int),(0:Int),(⟨(0:Int),(0:Int),(0:Int),[]⟩:am)⟩:ap).Value)with L:=r4.1}:ap).Tag ({(ap.mk (⟨r1.1,(0:Int),(0:Int),(0:Int),(⟨(0:Int),(0:Int),(0:Int),[]⟩:am)⟩:ap).Tag (⟨r1.1,(0:Int),(0:Int),(0:Int),(⟨(0:Int),(0:Int),(0:Int),[]⟩:am)⟩:ap).L (⟨r1.1,(0:Int),(0:Int),(0:Int),(⟨(0:Int),(0:Int),(0:Int),[]⟩:am)⟩:ap).R r2.1 (⟨r1.1,(0:Int),(0:Int),(0:Int),(⟨(0:Int),(0:Int),(0:Int),[]⟩:am)⟩:ap).Value)with L:=r4.1}:ap).L r4.2.1 ({(ap.mk (⟨r1.1,(0:Int),(0:Int),(0:Int),(⟨(0:Int),(0:Int),(0:Int),[]⟩:am)⟩:ap).Tag (⟨r1.1,(0:Int),(0:Int),(0:Int),(⟨(0:Int),(0:Int),(0:Int),[]⟩:am)⟩:ap).L (⟨r1.1,(0:Int),(0:Int),(0:Int),(⟨(0:Int),(0:Int),(0:Int),[]⟩:am)⟩:ap).R r2.1 (⟨r1.1,(0:Int),(0:Int),(0:Int),(⟨(0:Int),(0:Int),(0:Int),[]⟩:am)⟩:ap).Value)with L:=r4.1}:ap).Col ({(ap.mk (⟨r1.1,(0:Int),(0:Int),(0:Int),(⟨(0:Int),(0:Int),(0:Int),[]⟩:am)⟩:ap).Tag (⟨r1.1,(0:Int),(0:Int),(0:Int),(⟨(0:Int),(0:Int),(0:Int),[]⟩:am)⟩:ap).L (⟨r1.1,(0:Int),(0:Int),(0:Int),(⟨(0:Int),(0:Int),(0:Int),[]⟩:am)⟩:ap).R r2.1 (⟨r1.1,(0:Int),(0:Int),(0:Int),(⟨(0:Int),(0:Int),(0:Int),[]⟩:am)⟩:ap).Value)with L:=r4.1}:ap).Value),r4.2.2.1,r2.2,r4.2.2.2,(IntKind.i64.wrap (at1+(1:Int)))))
  else
  (if(((⟨r1.1,(0:Int),(0:Int),(0:Int),(⟨(0:Int),(0:Int),(0:Int),[]⟩:am)⟩:ap).Tag)==(1:Int))then
  ((jt r r1.2).bind fun r5=>
  (qi ((⟨r1.1,(0:Int),(0:Int),(0:Int),(⟨(0:Int),(0:Int),(0:Int),[]⟩:am)⟩:ap).Tag)).bind fun r6=>
  (cI r5.2.1 r5.2.2 t r6 at1).bind fun r7=>
  some ((ap.mk ({(ap.mk (⟨r1.1,(0:Int),(0:Int),(0:Int),(⟨(0:Int),(0:Int),(0:Int),[]⟩:am)⟩:ap).Tag (⟨r1.1,(0:Int),(0:Int),(0:Int),(⟨(0:Int),(0:Int),(0:Int),[]⟩:am)⟩:ap).L (⟨r1.1,(0:Int),(0:Int),(0:Int),(⟨(0:Int),(0:Int),(0:Int),[]⟩:am)⟩:ap).R (⟨r1.1,(0:Int),(0:Int),(0:Int),(⟨(0:Int),(0:Int),(0:Int),[]⟩:am)⟩:ap).Col r5.1)with L:=r7.1}:ap).Tag ({(ap.mk (⟨r1.1,(0:Int),(0:Int),(0:Int),(⟨(0:Int),(0:Int),(0:Int),[]⟩:am)⟩:ap).Tag (⟨r1.1,(0:Int),(0:Int),(0:Int),(⟨(0:Int),(0:Int),(0:Int),[]⟩:am)⟩:ap).L (⟨r1.1,(0:Int),(0:Int),(0:Int),(⟨(0:Int),(0:Int),(0:Int),[]⟩:am)⟩:ap).R (⟨r1.1,(0:Int),(0:Int),(0:Int),(⟨(0:Int),(0:Int),(0:Int),[]⟩:am)⟩:ap).Col r5.1)with L:=r7.1}:ap).L r7.2.1 ({(ap.mk (⟨r1.1,(0:Int),(0:Int),(0:Int),(⟨(0:Int),(0:Int),(0:Int),[]⟩:am)⟩:ap).Tag (⟨r1.1,(0:Int),(0:Int),(0:Int),(⟨(0:Int),(0:Int),(0:Int),[]⟩:am)⟩:ap).L (⟨r1.1,(0:Int),(0:Int),(0:Int),(⟨(0:Int),(0:Int),(0:Int),[]⟩:am)⟩:ap).R (⟨r1.1,(0:Int),(0:Int),(0:Int),(⟨(0:Int),(0:Int),(0:Int),[]⟩:am)⟩:ap).Col r5.1)with L:=r7.1}:ap).Col ({(ap.mk (⟨r1.1,(0:Int),(0:Int),(0:Int),(⟨(0:Int),(0:Int),(0:Int),[]⟩:am)⟩:ap).Tag (⟨r1.1,(0:Int),(0:Int),(0:Int),(⟨(0:Int),(0:Int),(0:Int),[]⟩:am)⟩:ap).L (⟨r1.1,(0:Int),(0:Int),(0:Int),(⟨(0:Int),(0:Int),(0:Int),[]⟩:am)⟩:ap).R (⟨r1.1,(0:Int),(0:Int),(0:Int),(⟨(0:Int),(0:Int),(0:Int),[]⟩:am)⟩:ap).Col r5.1)with L:=r7.1}:ap).Value),r7.2.2.1,r5.2.2,r7.2.2.2,(IntKind.i64.wrap (at1+(1:Int)))))
  else
  ((qi ((⟨r1.1,(0:Int),(0:Int),(0:Int),(⟨(0:Int),(0:Int),(0:Int),[]⟩:am)⟩:ap).Tag)).bind fun r8=>
  (cI r r1.2 t r8 at1).bind fun r9=>
  some ((ap.mk ({(⟨r1.1,(0:Int),(0:Int),(0:Int),(⟨(0:Int),(0:Int),(0:Int),[]⟩:am)⟩:ap)with L:=r9.1}:ap).Tag ({(⟨r1.1,(0:Int),(0:Int),(0:Int),(⟨(0:Int),(0:Int),(0:Int),[]⟩:am)⟩:ap)with L:=r9.1}:ap).L r9.2.1 ({(⟨r1.1,(0:Int),(0:Int),(0:Int),(⟨(0:Int),(0:Int),(0:Int),[]⟩:am)⟩:ap)with L:=r9.1}:ap).Col ({(⟨r1.1,(0:Int),(0:Int),(0:Int),(⟨(0:Int),(0:Int),(0:Int),[]⟩:am)⟩:ap)with L:=r9.1}:ap).Value),r9.2.2.1,r1.2,r9.2.2.2,(IntKind.i64.wrap (at1+(1:Int))))))

def kI(out:List ap)(x:Int)(x1:List Int)(ob:aK)(ob1:af):Option ((List ap)×aK×af×(List Int)×Int):=
 some (out,ob,ob1,x1,x)

def gb(n:Int):Nat->(List ap)->Int->Int->(List Int)->aK->af->Option ((List ap)×aK×af×(List Int)×Int)
  |0,_,_,_,_,_,_=>none
  |n1+1,out1,x2,x3,x4,ob2,ob3=>
    if(decide (x2<n))then
    ((c7 ob2 ob3).bind fun r1=>
    if(!r1)then
    (kI out1 x3 x4 ob2 ob3)
    else
    ((ml ob2 ob3 x4 x3).bind fun r2=>
    (app out1 ([r2.1])).bind fun out2=>
    (gb n n1) out2 (IntKind.i64.wrap (x2+(1:Int))) r2.2.2.2.2 r2.2.2.2.1 r2.2.1 r2.2.2.1))
    else
    (kI out1 x3 x4 ob2 ob3)

def jH(r:aK)(in1:af)(n:Int)(t:(List Int))(at1:Int):Option ((List ap)×aK×af×(List Int)×Int):=
 gb n fh ([]:List ap) (0:Int) at1 t r in1

def f6(r:aK)(in1:af):Option (aP×aK×af):=
 (io in1).bind fun r1=>
 (jH r r1.2 (IntKind.i64.wrap r1.1) ([]:List Int) (0:Int)).bind fun r2=>
 some ((⟨r2.1⟩:aP),r2.2.1,r2.2.2.1)

def o8(r:aK)(in1:af):Option (eS×aK×af):=
 (aO r in1).bind fun r1=>
 (f6 r r1.2).bind fun r2=>
 some ((⟨r1.1,r2.1⟩:eS),r2.2.1,r2.2.2)

def o7(r:aK)(in1:af):Option (kg×aK×af):=
 (aO r in1).bind fun r1=>
 (ff r r1.2).bind fun r2=>
 some ((⟨r1.1,r2.1⟩:kg),r2.2.1,r2.2.2)

def lx(out:List eS)(ob:aK)(ob1:af):Option ((List eS)×aK×af):=
 some (out,ob,ob1)

def jd(n:Int):Nat->(List eS)->Int->aK->af->Option ((List eS)×aK×af)
  |0,_,_,_,_=>none
  |n1+1,out1,x,ob2,ob3=>
    if(decide (x<n))then
    ((c7 ob2 ob3).bind fun r1=>
    if(!r1)then
    (lx out1 ob2 ob3)
    else
    ((o8 ob2 ob3).bind fun r2=>
    (app out1 ([r2.1])).bind fun out2=>
    (jd n n1) out2 (IntKind.i64.wrap (x+(1:Int))) r2.2.1 r2.2.2))
    else
    (lx out1 ob2 ob3)

def kJ(r:aK)(in1:af)(n:Int):Option ((List eS)×aK×af):=
 jd n fh ([]:List eS) (0:Int) r in1

def li(out:List aP)(ob:aK)(ob1:af):Option ((List aP)×aK×af):=
 some (out,ob,ob1)

def iO(n:Int):Nat->(List aP)->Int->aK->af->Option ((List aP)×aK×af)
  |0,_,_,_,_=>none
  |n1+1,out1,x,ob2,ob3=>
    if(decide (x<n))then
    ((c7 ob2 ob3).bind fun r1=>
    if(!r1)then
    (li out1 ob2 ob3)
    else
    ((f6 ob2 ob3).bind fun r2=>
    (app out1 ([r2.1])).bind fun out2=>
    (iO n n1) out2 (IntKind.i64.wrap (x+(1:Int))) r2.2.1 r2.2.2))
    else
    (li out1 ob2 ob3)

def j8(r:aK)(in1:af)(n:Int):Option ((List aP)×aK×af):=
 iO n fh ([]:List aP) (0:Int) r in1

def lw(out:List kg)(ob:aK)(ob1:af):Option ((List kg)×aK×af):=
 some (out,ob,ob1)

def jc(n:Int):Nat->(List kg)->Int->aK->af->Option ((List kg)×aK×af)
  |0,_,_,_,_=>none
  |n1+1,out1,x,ob2,ob3=>
    if(decide (x<n))then
    ((c7 ob2 ob3).bind fun r1=>
    if(!r1)then
    (lw out1 ob2 ob3)
    else
    ((o7 ob2 ob3).bind fun r2=>
    (app out1 ([r2.1])).bind fun out2=>
    (jc n n1) out2 (IntKind.i64.wrap (x+(1:Int))) r2.2.1 r2.2.2))
    else
    (lw out1 ob2 ob3)

def kG(r:aK)(in1:af)(n:Int):Option ((List kg)×aK×af):=
 jc n fh ([]:List kg) (0:Int) r in1

def jU(r:aK)(t:(List Int))(at1:Int)(r1:Int×af)(x1:Bool):Option (aa×aK×af×(List Int)):=
  if x1 then
  ((ip r r1.2).bind fun r10=>
  (aO r r10.2).bind fun r11=>
  (kJ r r11.2 r11.1).bind fun r12=>
  (cI r12.2.1 r12.2.2 t (1:Int) at1).bind fun r13=>
  some ((aa.mk (⟨r1.1,(0:Int),(0:Int),(0:Int),[],false,(⟨[]⟩:aP),[],[],[],[],(0:Int)⟩:aa).Op r13.1 r13.2.1 (⟨r1.1,(0:Int),(0:Int),(0:Int),[],false,(⟨[]⟩:aP),[],[],[],[],(0:Int)⟩:aa).Table (⟨r1.1,(0:Int),(0:Int),(0:Int),[],false,(⟨[]⟩:aP),[],[],[],[],(0:Int)⟩:aa).Kinds (⟨r1.1,(0:Int),(0:Int),(0:Int),[],false,(⟨[]⟩:aP),[],[],[],[],(0:Int)⟩:aa).Left (⟨r1.1,(0:Int),(0:Int),(0:Int),[],false,(⟨[]⟩:aP),[],[],[],[],(0:Int)⟩:aa).Cond r10.1 r12.1 (⟨r1.1,(0:Int),(0:Int),(0:Int),[],false,(⟨[]⟩:aP),[],[],[],[],(0:Int)⟩:aa).Items (⟨r1.1,(0:Int),(0:Int),(0:Int),[],false,(⟨[]⟩:aP),[],[],[],[],(0:Int)⟩:aa).Order (⟨r1.1,(0:Int),(0:Int),(0:Int),[],false,(⟨[]⟩:aP),[],[],[],[],(0:Int)⟩:aa).Limit),r13.2.2.1,r12.2.2,r13.2.2.2))
  else
  (if(((⟨r1.1,(0:Int),(0:Int),(0:Int),[],false,(⟨[]⟩:aP),[],[],[],[],(0:Int)⟩:aa).Op)==(5:Int))then
  ((aO r r1.2).bind fun r14=>
  (j8 r r14.2 r14.1).bind fun r15=>
  (cI r15.2.1 r15.2.2 t (1:Int) at1).bind fun r16=>
  some ((aa.mk (⟨r1.1,(0:Int),(0:Int),(0:Int),[],false,(⟨[]⟩:aP),[],[],[],[],(0:Int)⟩:aa).Op r16.1 r16.2.1 (⟨r1.1,(0:Int),(0:Int),(0:Int),[],false,(⟨[]⟩:aP),[],[],[],[],(0:Int)⟩:aa).Table (⟨r1.1,(0:Int),(0:Int),(0:Int),[],false,(⟨[]⟩:aP),[],[],[],[],(0:Int)⟩:aa).Kinds (⟨r1.1,(0:Int),(0:Int),(0:Int),[],false,(⟨[]⟩:aP),[],[],[],[],(0:Int)⟩:aa).Left (⟨r1.1,(0:Int),(0:Int),(0:Int),[],false,(⟨[]⟩:aP),[],[],[],[],(0:Int)⟩:aa).Cond (⟨r1.1,(0:Int),(0:Int),(0:Int),[],false,(⟨[]⟩:aP),[],[],[],[],(0:Int)⟩:aa).Keys (⟨r1.1,(0:Int),(0:Int),(0:Int),[],false,(⟨[]⟩:aP),[],[],[],[],(0:Int)⟩:aa).Aggs r15.1 (⟨r1.1,(0:Int),(0:Int),(0:Int),[],false,(⟨[]⟩:aP),[],[],[],[],(0:Int)⟩:aa).Order (⟨r1.1,(0:Int),(0:Int),(0:Int),[],false,(⟨[]⟩:aP),[],[],[],[],(0:Int)⟩:aa).Limit),r16.2.2.1,r15.2.2,r16.2.2.2))
  else
  (if(((⟨r1.1,(0:Int),(0:Int),(0:Int),[],false,(⟨[]⟩:aP),[],[],[],[],(0:Int)⟩:aa).Op)==(8:Int))then
  ((aO r r1.2).bind fun r17=>
  (kG r r17.2 r17.1).bind fun r18=>
  (kR r18.2.2).bind fun r19=>
  (cI r18.2.1 r19.2 t (1:Int) at1).bind fun r20=>
  some ((aa.mk (⟨r1.1,(0:Int),(0:Int),(0:Int),[],false,(⟨[]⟩:aP),[],[],[],[],(0:Int)⟩:aa).Op r20.1 r20.2.1 (⟨r1.1,(0:Int),(0:Int),(0:Int),[],false,(⟨[]⟩:aP),[],[],[],[],(0:Int)⟩:aa).Table (⟨r1.1,(0:Int),(0:Int),(0:Int),[],false,(⟨[]⟩:aP),[],[],[],[],(0:Int)⟩:aa).Kinds (⟨r1.1,(0:Int),(0:Int),(0:Int),[],false,(⟨[]⟩:aP),[],[],[],[],(0:Int)⟩:aa).Left (⟨r1.1,(0:Int),(0:Int),(0:Int),[],false,(⟨[]⟩:aP),[],[],[],[],(0:Int)⟩:aa).Cond (⟨r1.1,(0:Int),(0:Int),(0:Int),[],false,(⟨[]⟩:aP),[],[],[],[],(0:Int)⟩:aa).Keys (⟨r1.1,(0:Int),(0:Int),(0:Int),[],false,(⟨[]⟩:aP),[],[],[],[],(0:Int)⟩:aa).Aggs (⟨r1.1,(0:Int),(0:Int),(0:Int),[],false,(⟨[]⟩:aP),[],[],[],[],(0:Int)⟩:aa).Items r18.1 (IntKind.i64.wrap ((IntKind.i64.wrap r19.1)-(1:Int)))),r20.2.2.1,r19.2,r20.2.2.2))
  else
  (if(((⟨r1.1,(0:Int),(0:Int),(0:Int),[],false,(⟨[]⟩:aP),[],[],[],[],(0:Int)⟩:aa).Op)==(7:Int))then
  ((cI r r1.2 t (2:Int) at1).bind fun r21=>
  some ((aa.mk (⟨r1.1,(0:Int),(0:Int),(0:Int),[],false,(⟨[]⟩:aP),[],[],[],[],(0:Int)⟩:aa).Op r21.1 r21.2.1 (⟨r1.1,(0:Int),(0:Int),(0:Int),[],false,(⟨[]⟩:aP),[],[],[],[],(0:Int)⟩:aa).Table (⟨r1.1,(0:Int),(0:Int),(0:Int),[],false,(⟨[]⟩:aP),[],[],[],[],(0:Int)⟩:aa).Kinds (⟨r1.1,(0:Int),(0:Int),(0:Int),[],false,(⟨[]⟩:aP),[],[],[],[],(0:Int)⟩:aa).Left (⟨r1.1,(0:Int),(0:Int),(0:Int),[],false,(⟨[]⟩:aP),[],[],[],[],(0:Int)⟩:aa).Cond (⟨r1.1,(0:Int),(0:Int),(0:Int),[],false,(⟨[]⟩:aP),[],[],[],[],(0:Int)⟩:aa).Keys (⟨r1.1,(0:Int),(0:Int),(0:Int),[],false,(⟨[]⟩:aP),[],[],[],[],(0:Int)⟩:aa).Aggs (⟨r1.1,(0:Int),(0:Int),(0:Int),[],false,(⟨[]⟩:aP),[],[],[],[],(0:Int)⟩:aa).Items (⟨r1.1,(0:Int),(0:Int),(0:Int),[],false,(⟨[]⟩:aP),[],[],[],[],(0:Int)⟩:aa).Order (⟨r1.1,(0:Int),(0:Int),(0:Int),[],false,(⟨[]⟩:aP),[],[],[],[],(0:Int)⟩:aa).Limit),r21.2.2.1,r1.2,r21.2.2.2))
  else
  ((cI r r1.2 t (1:Int) at1).bind fun r22=>
  some ((aa.mk (⟨r1.1,(0:Int),(0:Int),(0:Int),[],false,(⟨[]⟩:aP),[],[],[],[],(0:Int)⟩:aa).Op r22.1 r22.2.1 (⟨r1.1,(0:Int),(0:Int),(0:Int),[],false,(⟨[]⟩:aP),[],[],[],[],(0:Int)⟩:aa).Table (⟨r1.1,(0:Int),(0:Int),(0:Int),[],false,(⟨[]⟩:aP),[],[],[],[],(0:Int)⟩:aa).Kinds (⟨r1.1,(0:Int),(0:Int),(0:Int),[],false,(⟨[]⟩:aP),[],[],[],[],(0:Int)⟩:aa).Left (⟨r1.1,(0:Int),(0:Int),(0:Int),[],false,(⟨[]⟩:aP),[],[],[],[],(0:Int)⟩:aa).Cond (⟨r1.1,(0:Int),(0:Int),(0:Int),[],false,(⟨[]⟩:aP),[],[],[],[],(0:Int)⟩:aa).Keys (⟨r1.1,(0:Int),(0:Int),(0:Int),[],false,(⟨[]⟩:aP),[],[],[],[],(0:Int)⟩:aa).Aggs (⟨r1.1,(0:Int),(0:Int),(0:Int),[],false,(⟨[]⟩:aP),[],[],[],[],(0:Int)⟩:aa).Items (⟨r1.1,(0:Int),(0:Int),(0:Int),[],false,(⟨[]⟩:aP),[],[],[],[],(0:Int)⟩:aa).Order (⟨r1.1,(0:Int),(0:Int),(0:Int),[],false,(⟨[]⟩:aP),[],[],[],[],(0:Int)⟩:aa).Limit),r22.2.2.1,r1.2,r22.2.2.2)))))

def lL(r:aK)(t:(List Int))(at1:Int)(r1:Int×af)(x:Bool):Option (aa×aK×af×(List Int)):=
  if x then
  ((aO r r1.2).bind fun r2=>
  (ip r r2.2).bind fun r3=>
  (cI r r3.2 t (0:Int) at1).bind fun r4=>
  some ((aa.mk (⟨r1.1,(0:Int),(0:Int),(0:Int),[],false,(⟨[]⟩:aP),[],[],[],[],(0:Int)⟩:aa).Op r4.1 r4.2.1 r2.1 r3.1 (⟨r1.1,(0:Int),(0:Int),(0:Int),[],false,(⟨[]⟩:aP),[],[],[],[],(0:Int)⟩:aa).Left (⟨r1.1,(0:Int),(0:Int),(0:Int),[],false,(⟨[]⟩:aP),[],[],[],[],(0:Int)⟩:aa).Cond (⟨r1.1,(0:Int),(0:Int),(0:Int),[],false,(⟨[]⟩:aP),[],[],[],[],(0:Int)⟩:aa).Keys (⟨r1.1,(0:Int),(0:Int),(0:Int),[],false,(⟨[]⟩:aP),[],[],[],[],(0:Int)⟩:aa).Aggs (⟨r1.1,(0:Int),(0:Int),(0:Int),[],false,(⟨[]⟩:aP),[],[],[],[],(0:Int)⟩:aa).Items (⟨r1.1,(0:Int),(0:Int),(0:Int),[],false,(⟨[]⟩:aP),[],[],[],[],(0:Int)⟩:aa).Order (⟨r1.1,(0:Int),(0:Int),(0:Int),[],false,(⟨[]⟩:aP),[],[],[],[],(0:Int)⟩:aa).Limit),r4.2.2.1,r3.2,r4.2.2.2))
  else
  (if(((⟨r1.1,(0:Int),(0:Int),(0:Int),[],false,(⟨[]⟩:aP),[],[],[],[],(0:Int)⟩:aa).Op)==(2:Int))then
  ((ff r r1.2).bind fun r5=>
  (f6 r5.2.1 r5.2.2).bind fun r6=>
  (cI r6.2.1 r6.2.2 t (2:Int) at1).bind fun r7=>
  some ((aa.mk (⟨r1.1,(0:Int),(0:Int),(0:Int),[],false,(⟨[]⟩:aP),[],[],[],[],(0:Int)⟩:aa).Op r7.1 r7.2.1 (⟨r1.1,(0:Int),(0:Int),(0:Int),[],false,(⟨[]⟩:aP),[],[],[],[],(0:Int)⟩:aa).Table (⟨r1.1,(0:Int),(0:Int),(0:Int),[],false,(⟨[]⟩:aP),[],[],[],[],(0:Int)⟩:aa).Kinds r5.1 r6.1 (⟨r1.1,(0:Int),(0:Int),(0:Int),[],false,(⟨[]⟩:aP),[],[],[],[],(0:Int)⟩:aa).Keys (⟨r1.1,(0:Int),(0:Int),(0:Int),[],false,(⟨[]⟩:aP),[],[],[],[],(0:Int)⟩:aa).Aggs (⟨r1.1,(0:Int),(0:Int),(0:Int),[],false,(⟨[]⟩:aP),[],[],[],[],(0:Int)⟩:aa).Items (⟨r1.1,(0:Int),(0:Int),(0:Int),[],false,(⟨[]⟩:aP),[],[],[],[],(0:Int)⟩:aa).Order (⟨r1.1,(0:Int),(0:Int),(0:Int),[],false,(⟨[]⟩:aP),[],[],[],[],(0:Int)⟩:aa).Limit),r7.2.2.1,r6.2.2,r7.2.2.2))
  else
  (if(((⟨r1.1,(0:Int),(0:Int),(0:Int),[],false,(⟨[]⟩:aP),[],[],[],[],(0:Int)⟩:aa).Op)==(3:Int))then
  ((f6 r r1.2).bind fun r8=>
  (cI r8.2.1 r8.2.2 t (1:Int) at1).bind fun r9=>
  some ((aa.mk (⟨r1.1,(0:Int),(0:Int),(0:Int),[],false,(⟨[]⟩:aP),[],[],[],[],(0:Int)⟩:aa).Op r9.1 r9.2.1 (⟨r1.1,(0:Int),(0:Int),(0:Int),[],false,(⟨[]⟩:aP),[],[],[],[],(0:Int)⟩:aa).Table (⟨r1.1,(0:Int),(0:Int),(0:Int),[],false,(⟨[]⟩:aP),[],[],[],[],(0:Int)⟩:aa).Kinds (⟨r1.1,(0:Int),(0:Int),(0:Int),[],false,(⟨[]⟩:aP),[],[],[],[],(0:Int)⟩:aa).Left r8.1 (⟨r1.1,(0:Int),(0:Int),(0:Int),[],false,(⟨[]⟩:aP),[],[],[],[],(0:Int)⟩:aa).Keys (⟨r1.1,(0:Int),(0:Int),(0:Int),[],false,(⟨[]⟩:aP),[],[],[],[],(0:Int)⟩:aa).Aggs (⟨r1.1,(0:Int),(0:Int),(0:Int),[],false,(⟨[]⟩:aP),[],[],[],[],(0:Int)⟩:aa).Items (⟨r1.1,(0:Int),(0:Int),(0:Int),[],false,(⟨[]⟩:aP),[],[],[],[],(0:Int)⟩:aa).Order (⟨r1.1,(0:Int),(0:Int),(0:Int),[],false,(⟨[]⟩:aP),[],[],[],[],(0:Int)⟩:aa).Limit),r9.2.2.1,r8.2.2,r9.2.2.2))
  else
  (if(((⟨r1.1,(0:Int),(0:Int),(0:Int),[],false,(⟨[]⟩:aP),[],[],[],[],(0:Int)⟩:aa).Op)==(4:Int))then
  (jU r t at1 r1 (((⟨r1.1,(0:Int),(0:Int),(0:Int),[],false,(⟨[]⟩:aP),[],[],[],[],(0:Int)⟩:aa).Op)==(4:Int)))
  else
  (if(((⟨r1.1,(0:Int),(0:Int),(0:Int),[],false,(⟨[]⟩:aP),[],[],[],[],(0:Int)⟩:aa).Op)==(10:Int))then
  (jU r t at1 r1 (((⟨r1.1,(0:Int),(0:Int),(0:Int),[],false,(⟨[]⟩:aP),[],[],[],[],(0:Int)⟩:aa).Op)==(10:Int)))
  else
  (jU r t at1 r1 (((⟨r1.1,(0:Int),(0:Int),(0:Int),[],false,(⟨[]⟩:aP),[],[],[],[],(0:Int)⟩:aa).Op)==(11:Int)))))))

def qK(r:aK)(in1:af)(t:(List Int))(at1:Int):Option (aa×aK×af×(List Int)):=
 (aO r in1).bind fun r1=>
 if(((⟨r1.1,(0:Int),(0:Int),(0:Int),[],false,(⟨[]⟩:aP),[],[],[],[],(0:Int)⟩:aa).Op)==(1:Int))then
 (lL r t at1 r1 (((⟨r1.1,(0:Int),(0:Int),(0:Int),[],false,(⟨[]⟩:aP),[],[],[],[],(0:Int)⟩:aa).Op)==(1:Int)))
 else
 (lL r t at1 r1 (((⟨r1.1,(0:Int),(0:Int),(0:Int),[],false,(⟨[]⟩:aP),[],[],[],[],(0:Int)⟩:aa).Op)==(9:Int)))

def mj(r:aK)(in1:af)(t:(List Int))(at1:Int):Option (aa×aK×af×(List Int)×Int):=
 (qK r in1 t at1).bind fun r1=>
 some (r1.1,r1.2.1,r1.2.2.1,r1.2.2.2,(IntKind.i64.wrap (at1+(1:Int))))

def kH(out:List aa)(x:Int)(x1:List Int)(ob:aK)(ob1:af):Option ((List aa)×aK×af×(List Int)×Int):=
 some (out,ob,ob1,x1,x)

def ga(n:Int):Nat->(List aa)->Int->Int->(List Int)->aK->af->Option ((List aa)×aK×af×(List Int)×Int)
  |0,_,_,_,_,_,_=>none
  |n1+1,out1,x2,x3,x4,ob2,ob3=>
    if(decide (x2<n))then
    ((c7 ob2 ob3).bind fun r1=>
    if(!r1)then
    (kH out1 x3 x4 ob2 ob3)
    else
    ((mj ob2 ob3 x4 x3).bind fun r2=>
    (app out1 ([r2.1])).bind fun out2=>
    (ga n n1) out2 (IntKind.i64.wrap (x2+(1:Int))) r2.2.2.2.2 r2.2.2.2.1 r2.2.1 r2.2.2.1))
    else
    (kH out1 x3 x4 ob2 ob3)

def lW(r:aK)(in1:af)(n:Int)(t:(List Int))(at1:Int):Option ((List aa)×aK×af×(List Int)×Int):=
 ga n fh ([]:List aa) (0:Int) at1 t r in1

def nO(r:aK)(in1:af):Option (di×aK×af):=
 (aO r in1).bind fun r1=>
 (aO r r1.2).bind fun r2=>
 (ip r r2.2).bind fun r3=>
 (aO r r3.2).bind fun r4=>
 (lW r r4.2 r4.1 ([]:List Int) (0:Int)).bind fun r5=>
 some ((di.mk r5.1 (⟨[],r1.1,r2.1,r3.1⟩:di).At (⟨[],r1.1,r2.1,r3.1⟩:di).Way (⟨[],r1.1,r2.1,r3.1⟩:di).Cols),r5.2.1,r5.2.2.1)

def lh(out:List di)(ob:aK)(ob1:af):Option ((List di)×aK×af):=
 some (out,ob,ob1)

def iN(n:Int):Nat->(List di)->Int->aK->af->Option ((List di)×aK×af)
  |0,_,_,_,_=>none
  |n1+1,out1,x,ob2,ob3=>
    if(decide (x<n))then
    ((c7 ob2 ob3).bind fun r1=>
    if(!r1)then
    (lh out1 ob2 ob3)
    else
    ((nO ob2 ob3).bind fun r2=>
    (app out1 ([r2.1])).bind fun out2=>
    (iN n n1) out2 (IntKind.i64.wrap (x+(1:Int))) r2.2.1 r2.2.2))
    else
    (lh out1 ob2 ob3)

def mI(r:aK)(in1:af)(n:Int):Option ((List di)×aK×af):=
 iN n fh ([]:List di) (0:Int) r in1

def nN(r:aK)(in1:af):Option (cT×aK×af):=
 (aO r in1).bind fun r1=>
 (mI r r1.2 r1.1).bind fun r2=>
 some ((⟨r2.1⟩:cT),r2.2.1,r2.2.2)

def ju(r:aK)(in1:af):Option Bool:=
  (c7 r in1).bind fun r1=>
  if r1 then
  ((fY in1).bind fun r2=>
  some (r2==(0:Int)))
  else
  (some false)

def rb(b:(List Int)):Option ((List Int)×Int):=
  if(decide ((IntKind.i64.wrap ((b.length:Int)-(4:Int)))<(0:Int)))then
  (some ([],(7:Int)))
  else
  ((dV b 0 (IntKind.i64.wrap ((b.length:Int)-(4:Int)))).bind fun y=>
  (oH y).bind fun r=>
  (nY r).bind fun r1=>
  (ql r1 b).bind fun r2=>
  if(!r2)then
  (some ([],(130:Int)))
  else
  (some (r,(0:Int))))

def mp(t:cB)(in1:af)(p:(List (List am))):Option ((List (List am))×Int×Int):=
  if t.bad then
  (some ([],(0:Int),(160:Int)))
  else
  ((fN in1).bind fun r=>
  if(r !=(0:Int))then
  ((fN in1).bind fun r1=>
  some ([],(0:Int),r1))
  else
  ((fY in1).bind fun r2=>
  some (p,(IntKind.i64.wrap (t.all-r2)),(0:Int))))

def iv(n:Int):Nat->(List am)->Int->cB->af->Option ((List am)×cB×af)
  |0,_,_,_,_=>none
  |n1+1,out,i,ob,ob1=>
    if(decide (i<n))then
    ((d7 ob ob1).bind fun r=>
    if r then
    ((j9 ob ob1).bind fun r1=>
    (app out ([r1.1])).bind fun out1=>
    (iv n n1) out1 (IntKind.i64.wrap (i+(1:Int))) r1.2.1 r1.2.2)
    else
    (some (out,ob,ob1)))
    else
    (some (out,ob,ob1))

def fP(t:cB)(in1:af)(n:Int):Option ((List am)×cB×af):=
 iv n fh ([]:List am) (0:Int) t in1

def pJ(t:cB)(in1:af):Option ((List am)×cB×af):=
 (ck in1).bind fun r=>
 (cE t r.2 (decide ((IntKind.i64.wrap r.1)<=(16:Int)))).bind fun r1=>
 (fP r1 r.2 (IntKind.i64.wrap r.1)).bind fun r2=>
 some (r2.1,r2.2.1,r2.2.2)

def je(n:Int):Nat->(List (List am))->Int->cB->af->Option ((List (List am))×cB×af)
  |0,_,_,_,_=>none
  |n1+1,out,i,ob,ob1=>
    if(decide (i<n))then
    ((d7 ob ob1).bind fun r=>
    if r then
    ((pJ ob ob1).bind fun r1=>
    (app out ([r1.1])).bind fun out1=>
    (je n n1) out1 (IntKind.i64.wrap (i+(1:Int))) r1.2.1 r1.2.2)
    else
    (some (out,ob,ob1)))
    else
    (some (out,ob,ob1))

def gC(t:cB)(in1:af)(n:Int):Option ((List (List am))×cB×af):=
 je n fh ([]:List (List am)) (0:Int) t in1

def pd(t:cB)(in1:af):Option ((List (List am))×cB×af):=
 (io in1).bind fun r=>
 (cE t r.2 (decide ((IntKind.i64.wrap r.1)<=(400:Int)))).bind fun r1=>
 (gC r1 r.2 (IntKind.i64.wrap r.1)).bind fun r2=>
 some (r2.1,r2.2.1,r2.2.2)

def mN(b:(List Int)):Option ((List (List am))×Int×Int):=
 (tH b).bind fun r=>
 (pd r.1 r.2).bind fun r1=>
 (mp r1.2.1 r1.2.2 r1.1).bind fun r2=>
 some (r2.1,r2.2.1,r2.2.2)

def kF(p:aI)(ob:aK)(ob1:af):Option (aI×aK×af):=
 some (p,ob,ob1)

def kp(r:aK)(in1:af)(kind:Int):Option (aI×aK×af):=
  (kR in1).bind fun r1=>
  (dx r1.2).bind fun r2=>
  if(kind==(2:Int))then
  ((dx r2.2).bind fun r3=>
  some ((aI.mk (⟨kind,r1.1,r2.1,(0:Int),(⟨[],false,(0:Int)⟩:bI)⟩:aI).Kind (⟨kind,r1.1,r2.1,(0:Int),(⟨[],false,(0:Int)⟩:bI)⟩:aI).Session (⟨kind,r1.1,r2.1,(0:Int),(⟨[],false,(0:Int)⟩:bI)⟩:aI).Seq r3.1 (⟨kind,r1.1,r2.1,(0:Int),(⟨[],false,(0:Int)⟩:bI)⟩:aI).Batch),r,r3.2))
  else
  ((ff r r2.2).bind fun r4=>
  if((({(⟨kind,r1.1,r2.1,(0:Int),(⟨[],false,(0:Int)⟩:bI)⟩:aI)with Batch:=({(⟨kind,r1.1,r2.1,(0:Int),(⟨[],false,(0:Int)⟩:bI)⟩:aI).Batch with End:=r4.1}:bI)}:aI).Batch).End)then
  ((dx r4.2.2).bind fun r5=>
  some (({({(⟨kind,r1.1,r2.1,(0:Int),(⟨[],false,(0:Int)⟩:bI)⟩:aI)with Batch:=({(⟨kind,r1.1,r2.1,(0:Int),(⟨[],false,(0:Int)⟩:bI)⟩:aI).Batch with End:=r4.1}:bI)}:aI)with Batch:=({({(⟨kind,r1.1,r2.1,(0:Int),(⟨[],false,(0:Int)⟩:bI)⟩:aI)with Batch:=({(⟨kind,r1.1,r2.1,(0:Int),(⟨[],false,(0:Int)⟩:bI)⟩:aI).Batch with End:=r4.1}:bI)}:aI).Batch with Count:=r5.1}:bI)}:aI),r4.2.1,r5.2))
  else
  ((c7 r4.2.1 r4.2.2).bind fun r6=>
  if r6 then
  ((iM r4.2.1 r4.2.2).bind fun r7=>
  (mN r7).bind fun r8=>
  (fZ r4.2.1 r4.2.2 r8.2.1 r8.2.2).bind fun r9=>
  kF ({({(⟨kind,r1.1,r2.1,(0:Int),(⟨[],false,(0:Int)⟩:bI)⟩:aI)with Batch:=({(⟨kind,r1.1,r2.1,(0:Int),(⟨[],false,(0:Int)⟩:bI)⟩:aI).Batch with End:=r4.1}:bI)}:aI)with Batch:=({({(⟨kind,r1.1,r2.1,(0:Int),(⟨[],false,(0:Int)⟩:bI)⟩:aI)with Batch:=({(⟨kind,r1.1,r2.1,(0:Int),(⟨[],false,(0:Int)⟩:bI)⟩:aI).Batch with End:=r4.1}:bI)}:aI).Batch with Rows:=r8.1}:bI)}:aI) r9.1 r9.2)
  else
  (kF ({(⟨kind,r1.1,r2.1,(0:Int),(⟨[],false,(0:Int)⟩:bI)⟩:aI)with Batch:=({(⟨kind,r1.1,r2.1,(0:Int),(⟨[],false,(0:Int)⟩:bI)⟩:aI).Batch with End:=r4.1}:bI)}:aI) r4.2.1 r4.2.2)))

def lM(r:aK)(in1:af):Option (bR×aK×af):=
  (aO r in1).bind fun r1=>
  (aO r r1.2).bind fun r2=>
  (aO r r2.2).bind fun r3=>
  (aO r r3.2).bind fun r4=>
  if(((⟨r1.1,r2.1,r3.1,r4.1,(0:Int),(0:Int),(⟨[]⟩:cT),(⟨(0:Int),(0:Int),(0:Int),(0:Int),(⟨[],false,(0:Int)⟩:bI)⟩:aI),(0:Int)⟩:bR).Kind)==(1:Int))then
  ((aO r r4.2).bind fun r5=>
  (nN r r5.2).bind fun r6=>
  some ((bR.mk (⟨r1.1,r2.1,r3.1,r4.1,(0:Int),(0:Int),(⟨[]⟩:cT),(⟨(0:Int),(0:Int),(0:Int),(0:Int),(⟨[],false,(0:Int)⟩:bI)⟩:aI),(0:Int)⟩:bR).Kind (⟨r1.1,r2.1,r3.1,r4.1,(0:Int),(0:Int),(⟨[]⟩:cT),(⟨(0:Int),(0:Int),(0:Int),(0:Int),(⟨[],false,(0:Int)⟩:bI)⟩:aI),(0:Int)⟩:bR).From (⟨r1.1,r2.1,r3.1,r4.1,(0:Int),(0:Int),(⟨[]⟩:cT),(⟨(0:Int),(0:Int),(0:Int),(0:Int),(⟨[],false,(0:Int)⟩:bI)⟩:aI),(0:Int)⟩:bR).To (⟨r1.1,r2.1,r3.1,r4.1,(0:Int),(0:Int),(⟨[]⟩:cT),(⟨(0:Int),(0:Int),(0:Int),(0:Int),(⟨[],false,(0:Int)⟩:bI)⟩:aI),(0:Int)⟩:bR).Epoch (⟨r1.1,r2.1,r3.1,r4.1,(0:Int),(0:Int),(⟨[]⟩:cT),(⟨(0:Int),(0:Int),(0:Int),(0:Int),(⟨[],false,(0:Int)⟩:bI)⟩:aI),(0:Int)⟩:bR).Frag r5.1 r6.1 (⟨r1.1,r2.1,r3.1,r4.1,(0:Int),(0:Int),(⟨[]⟩:cT),(⟨(0:Int),(0:Int),(0:Int),(0:Int),(⟨[],false,(0:Int)⟩:bI)⟩:aI),(0:Int)⟩:bR).Packet (⟨r1.1,r2.1,r3.1,r4.1,(0:Int),(0:Int),(⟨[]⟩:cT),(⟨(0:Int),(0:Int),(0:Int),(0:Int),(⟨[],false,(0:Int)⟩:bI)⟩:aI),(0:Int)⟩:bR).Err),r6.2.1,r6.2.2))
  else
  (if(((⟨r1.1,r2.1,r3.1,r4.1,(0:Int),(0:Int),(⟨[]⟩:cT),(⟨(0:Int),(0:Int),(0:Int),(0:Int),(⟨[],false,(0:Int)⟩:bI)⟩:aI),(0:Int)⟩:bR).Kind)==(3:Int))then
  ((aO r r4.2).bind fun r7=>
  (kp r r7.2 (1:Int)).bind fun r8=>
  some ((bR.mk (⟨r1.1,r2.1,r3.1,r4.1,(0:Int),(0:Int),(⟨[]⟩:cT),(⟨(0:Int),(0:Int),(0:Int),(0:Int),(⟨[],false,(0:Int)⟩:bI)⟩:aI),(0:Int)⟩:bR).Kind (⟨r1.1,r2.1,r3.1,r4.1,(0:Int),(0:Int),(⟨[]⟩:cT),(⟨(0:Int),(0:Int),(0:Int),(0:Int),(⟨[],false,(0:Int)⟩:bI)⟩:aI),(0:Int)⟩:bR).From (⟨r1.1,r2.1,r3.1,r4.1,(0:Int),(0:Int),(⟨[]⟩:cT),(⟨(0:Int),(0:Int),(0:Int),(0:Int),(⟨[],false,(0:Int)⟩:bI)⟩:aI),(0:Int)⟩:bR).To (⟨r1.1,r2.1,r3.1,r4.1,(0:Int),(0:Int),(⟨[]⟩:cT),(⟨(0:Int),(0:Int),(0:Int),(0:Int),(⟨[],false,(0:Int)⟩:bI)⟩:aI),(0:Int)⟩:bR).Epoch r7.1 (⟨r1.1,r2.1,r3.1,r4.1,(0:Int),(0:Int),(⟨[]⟩:cT),(⟨(0:Int),(0:Int),(0:Int),(0:Int),(⟨[],false,(0:Int)⟩:bI)⟩:aI),(0:Int)⟩:bR).Sites (⟨r1.1,r2.1,r3.1,r4.1,(0:Int),(0:Int),(⟨[]⟩:cT),(⟨(0:Int),(0:Int),(0:Int),(0:Int),(⟨[],false,(0:Int)⟩:bI)⟩:aI),(0:Int)⟩:bR).Plan r8.1 (⟨r1.1,r2.1,r3.1,r4.1,(0:Int),(0:Int),(⟨[]⟩:cT),(⟨(0:Int),(0:Int),(0:Int),(0:Int),(⟨[],false,(0:Int)⟩:bI)⟩:aI),(0:Int)⟩:bR).Err),r8.2.1,r8.2.2))
  else
  (if(((⟨r1.1,r2.1,r3.1,r4.1,(0:Int),(0:Int),(⟨[]⟩:cT),(⟨(0:Int),(0:Int),(0:Int),(0:Int),(⟨[],false,(0:Int)⟩:bI)⟩:aI),(0:Int)⟩:bR).Kind)==(4:Int))then
  ((aO r r4.2).bind fun r9=>
  (kp r r9.2 (2:Int)).bind fun r10=>
  some ((bR.mk (⟨r1.1,r2.1,r3.1,r4.1,(0:Int),(0:Int),(⟨[]⟩:cT),(⟨(0:Int),(0:Int),(0:Int),(0:Int),(⟨[],false,(0:Int)⟩:bI)⟩:aI),(0:Int)⟩:bR).Kind (⟨r1.1,r2.1,r3.1,r4.1,(0:Int),(0:Int),(⟨[]⟩:cT),(⟨(0:Int),(0:Int),(0:Int),(0:Int),(⟨[],false,(0:Int)⟩:bI)⟩:aI),(0:Int)⟩:bR).From (⟨r1.1,r2.1,r3.1,r4.1,(0:Int),(0:Int),(⟨[]⟩:cT),(⟨(0:Int),(0:Int),(0:Int),(0:Int),(⟨[],false,(0:Int)⟩:bI)⟩:aI),(0:Int)⟩:bR).To (⟨r1.1,r2.1,r3.1,r4.1,(0:Int),(0:Int),(⟨[]⟩:cT),(⟨(0:Int),(0:Int),(0:Int),(0:Int),(⟨[],false,(0:Int)⟩:bI)⟩:aI),(0:Int)⟩:bR).Epoch r9.1 (⟨r1.1,r2.1,r3.1,r4.1,(0:Int),(0:Int),(⟨[]⟩:cT),(⟨(0:Int),(0:Int),(0:Int),(0:Int),(⟨[],false,(0:Int)⟩:bI)⟩:aI),(0:Int)⟩:bR).Sites (⟨r1.1,r2.1,r3.1,r4.1,(0:Int),(0:Int),(⟨[]⟩:cT),(⟨(0:Int),(0:Int),(0:Int),(0:Int),(⟨[],false,(0:Int)⟩:bI)⟩:aI),(0:Int)⟩:bR).Plan r10.1 (⟨r1.1,r2.1,r3.1,r4.1,(0:Int),(0:Int),(⟨[]⟩:cT),(⟨(0:Int),(0:Int),(0:Int),(0:Int),(⟨[],false,(0:Int)⟩:bI)⟩:aI),(0:Int)⟩:bR).Err),r10.2.1,r10.2.2))
  else
  (if(((⟨r1.1,r2.1,r3.1,r4.1,(0:Int),(0:Int),(⟨[]⟩:cT),(⟨(0:Int),(0:Int),(0:Int),(0:Int),(⟨[],false,(0:Int)⟩:bI)⟩:aI),(0:Int)⟩:bR).Kind)==(5:Int))then
  ((ff r r4.2).bind fun r11=>
  if r11.1 then
  (some ((bR.mk (⟨r1.1,r2.1,r3.1,r4.1,(0:Int),(0:Int),(⟨[]⟩:cT),(⟨(0:Int),(0:Int),(0:Int),(0:Int),(⟨[],false,(0:Int)⟩:bI)⟩:aI),(0:Int)⟩:bR).Kind (⟨r1.1,r2.1,r3.1,r4.1,(0:Int),(0:Int),(⟨[]⟩:cT),(⟨(0:Int),(0:Int),(0:Int),(0:Int),(⟨[],false,(0:Int)⟩:bI)⟩:aI),(0:Int)⟩:bR).From (⟨r1.1,r2.1,r3.1,r4.1,(0:Int),(0:Int),(⟨[]⟩:cT),(⟨(0:Int),(0:Int),(0:Int),(0:Int),(⟨[],false,(0:Int)⟩:bI)⟩:aI),(0:Int)⟩:bR).To (⟨r1.1,r2.1,r3.1,r4.1,(0:Int),(0:Int),(⟨[]⟩:cT),(⟨(0:Int),(0:Int),(0:Int),(0:Int),(⟨[],false,(0:Int)⟩:bI)⟩:aI),(0:Int)⟩:bR).Epoch (⟨r1.1,r2.1,r3.1,r4.1,(0:Int),(0:Int),(⟨[]⟩:cT),(⟨(0:Int),(0:Int),(0:Int),(0:Int),(⟨[],false,(0:Int)⟩:bI)⟩:aI),(0:Int)⟩:bR).Frag (⟨r1.1,r2.1,r3.1,r4.1,(0:Int),(0:Int),(⟨[]⟩:cT),(⟨(0:Int),(0:Int),(0:Int),(0:Int),(⟨[],false,(0:Int)⟩:bI)⟩:aI),(0:Int)⟩:bR).Sites (⟨r1.1,r2.1,r3.1,r4.1,(0:Int),(0:Int),(⟨[]⟩:cT),(⟨(0:Int),(0:Int),(0:Int),(0:Int),(⟨[],false,(0:Int)⟩:bI)⟩:aI),(0:Int)⟩:bR).Plan (⟨r1.1,r2.1,r3.1,r4.1,(0:Int),(0:Int),(⟨[]⟩:cT),(⟨(0:Int),(0:Int),(0:Int),(0:Int),(⟨[],false,(0:Int)⟩:bI)⟩:aI),(0:Int)⟩:bR).Packet (300:Int)),r11.2.1,r11.2.2))
  else
  (some ((bR.mk (⟨r1.1,r2.1,r3.1,r4.1,(0:Int),(0:Int),(⟨[]⟩:cT),(⟨(0:Int),(0:Int),(0:Int),(0:Int),(⟨[],false,(0:Int)⟩:bI)⟩:aI),(0:Int)⟩:bR).Kind (⟨r1.1,r2.1,r3.1,r4.1,(0:Int),(0:Int),(⟨[]⟩:cT),(⟨(0:Int),(0:Int),(0:Int),(0:Int),(⟨[],false,(0:Int)⟩:bI)⟩:aI),(0:Int)⟩:bR).From (⟨r1.1,r2.1,r3.1,r4.1,(0:Int),(0:Int),(⟨[]⟩:cT),(⟨(0:Int),(0:Int),(0:Int),(0:Int),(⟨[],false,(0:Int)⟩:bI)⟩:aI),(0:Int)⟩:bR).To (⟨r1.1,r2.1,r3.1,r4.1,(0:Int),(0:Int),(⟨[]⟩:cT),(⟨(0:Int),(0:Int),(0:Int),(0:Int),(⟨[],false,(0:Int)⟩:bI)⟩:aI),(0:Int)⟩:bR).Epoch (⟨r1.1,r2.1,r3.1,r4.1,(0:Int),(0:Int),(⟨[]⟩:cT),(⟨(0:Int),(0:Int),(0:Int),(0:Int),(⟨[],false,(0:Int)⟩:bI)⟩:aI),(0:Int)⟩:bR).Frag (⟨r1.1,r2.1,r3.1,r4.1,(0:Int),(0:Int),(⟨[]⟩:cT),(⟨(0:Int),(0:Int),(0:Int),(0:Int),(⟨[],false,(0:Int)⟩:bI)⟩:aI),(0:Int)⟩:bR).Sites (⟨r1.1,r2.1,r3.1,r4.1,(0:Int),(0:Int),(⟨[]⟩:cT),(⟨(0:Int),(0:Int),(0:Int),(0:Int),(⟨[],false,(0:Int)⟩:bI)⟩:aI),(0:Int)⟩:bR).Plan (⟨r1.1,r2.1,r3.1,r4.1,(0:Int),(0:Int),(⟨[]⟩:cT),(⟨(0:Int),(0:Int),(0:Int),(0:Int),(⟨[],false,(0:Int)⟩:bI)⟩:aI),(0:Int)⟩:bR).Packet (140:Int)),r11.2.1,r11.2.2)))
  else
  (some ((⟨r1.1,r2.1,r3.1,r4.1,(0:Int),(0:Int),(⟨[]⟩:cT),(⟨(0:Int),(0:Int),(0:Int),(0:Int),(⟨[],false,(0:Int)⟩:bI)⟩:aI),(0:Int)⟩:bR),r,r4.2)))))

def qM(b:(List Int)):Option (bR×Int):=
  (rb b).bind fun r=>
  if(r.2 !=(0:Int))then
  (some ((⟨(0:Int),(0:Int),(0:Int),(0:Int),(0:Int),(0:Int),(⟨[]⟩:cT),(⟨(0:Int),(0:Int),(0:Int),(0:Int),(⟨[],false,(0:Int)⟩:bI)⟩:aI),(0:Int)⟩:bR),r.2))
  else
  ((v8 r.1).bind fun r1=>
  (lM r1.1 r1.2).bind fun r2=>
  (ju r2.2.1 r2.2.2).bind fun r3=>
  (if(!(!r3))then((lK r2.1).bind fun r4=>
  some (!r4))else some true).bind fun t=>
  if(t||(decide ((20000:Int)<(b.length:Int))))then
  (some ((⟨(0:Int),(0:Int),(0:Int),(0:Int),(0:Int),(0:Int),(⟨[]⟩:cT),(⟨(0:Int),(0:Int),(0:Int),(0:Int),(⟨[],false,(0:Int)⟩:bI)⟩:aI),(0:Int)⟩:bR),(331:Int)))
  else
  (some (r2.1,(0:Int))))

def pH(m:bR)(o:bR):Option Bool:=
  (xJ).bind fun r=>
  if(!r)then
  (some false)
  else
  ((rn m).bind fun r1=>
  (if(!r1)then((rn o).bind fun r2=>
  some r2)else some true).bind fun t=>
  if t then
  (some true)
  else
  ((m2 m).bind fun r3=>
  if(r3.2 !=(0:Int))then
  (some ((r3.1.length:Int)==(0:Int)))
  else
  ((qM r3.1).bind fun r4=>
  (if(!(r4.2 !=(0:Int)))then((m1 r4.1 m).bind fun r5=>
  some (!r5))else some true).bind fun t1=>
  if t1 then
  (some false)
  else
  ((m2 o).bind fun r6=>
  (if(!(r6.2 !=(0:Int)))then((ql r3.1 r6.1).bind fun r7=>
  (m1 m o).bind fun r8=>
  some (r7==r8))else some true).bind fun t2=>
  some t2))))

end Go.Proofs.YtdohlidddcgfjaaGreat

