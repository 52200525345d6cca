/- cE of this claim: F. -/
import Derived.Test.YtdohlidddcgfjaaGreatFcD
import Derived.Test.YtdohlidddcgfjaaGreatFcV4
set_option linter.all false
namespace Go.Proofs.YtdohlidddcgfjaaGreat
open Go

def wJ(nx1:Int->(List Int)->Option (List Int))(n2:Int):Nat->Int->(List Int)->Option (List Int)
  |0,_,_=>none
  |n4+1,x,out2=>
    if(decide (x<n2))then
    ((gB out2 n2).bind fun e4=>
    (gB out2 x).bind fun e5=>
    (gB out2 (IntKind.i64.wrap (n2+x))).bind fun e6=>
    (some (out2.set (IntKind.i64.wrap (n2+x)).toNat (tA .xor .u32 e4 e5))).bind fun ar3=>
    (wJ nx1 n2 n4) (IntKind.i64.wrap (x+(1:Int))) ar3)
    else
    (nx1 (IntKind.i64.wrap (n2*(2:Int))) out2)

def tK:Nat->Int->(List Int)->Option (List Int)
 |0,_,_=>none
 |n3+1,n2,out1=>
  if(decide (n2<(256:Int)))then
  (wJ (tK n3) n2 dk (0:Int) out1)
  else
  (some out1)

def tL:Nat->Int->(List Int)->Option (List Int)
  |0,_,_=>none
  |n1+1,n,out=>
    if(decide ((0:Int)<n))then
    ((gB out (IntKind.i64.wrap ((2:Int)*n))).bind fun e1=>
    (gB out n).bind fun e2=>
    (some (out.set n.toNat ((e1).fdiv (2^(min (Int.toNat (1:Int)) IntKind.u32.bits))))).bind fun ar1=>
    if((tA .and .u32 e1 (1:Int))==(1:Int))then
    ((gB ar1 n).bind fun e3=>
    (some (ar1.set n.toNat (tA .xor .u32 e3 (2197175160:Int)))).bind fun ar2=>
    (tL n1) (IntKind.i64.wrap ((n).tdiv (2:Int))) ar2)
    else
    ((tL n1) (IntKind.i64.wrap ((n).tdiv (2:Int))) ar1))
    else
    (tK dk (2:Int) out)

def Gy:Option (List Int):=
 (gB (List.replicate 256 (0:Int)) (128:Int)).bind fun e=>
 (some ((List.replicate 256 (0:Int)).set (128:Int).toNat (2197175160:Int))).bind fun ar=>
 tL dk (64:Int) ar

def CU(register:Int)(D7:(List Int))(c:Int):Option Int:=
 (gB D7 (tA .xor .u8 (IntKind.u8.wrap register) c)).bind fun e=>
 some (tA .xor .u32 ((register).fdiv (2^(min (Int.toNat (8:Int)) IntKind.u32.bits))) e)

def wK(r:(List Int)):List Int->Int->Option Int
 |[],register=>
  some (tA .xor .u32 (if IntKind.u32.signed then -1 else IntKind.u32.max) register)
 |e::tl,register=>
  (CU register r e).bind fun r1=>
  (wK r tl) r1

def Gz(b:(List Int)):Option Int:=
 (Gy).bind fun r=>
 wK r b (4294967295:Int)

def yJ(b:(List Int)):Option (List Int):=
 (app ([]:List Int) b).bind fun x=>
 some x

def vH:Nat->(List Int)->Int->Option (List Int)
 |0,out,n=>
  some out
 |k1+1,out,n=>
  (app out ([(IntKind.u8.wrap n)])).bind fun out1=>
  (vH k1) out1 ((n).fdiv (2^(min (Int.toNat (8:Int)) IntKind.u32.bits)))

def D9(b:(List Int)):Option (List Int):=
 (Gz b).bind fun r=>
 (yJ b).bind fun r1=>
 vH 4 r1 r

def s4(n:Int):Option Bool:=
 some ((decide ((0:Int)<=n))&&(decide (n<=(8:Int))))

def eM(s2:(List (List aC)))(eq:((List aC)->(List aC)->Option Bool)):List (List aC)->Nat->Option Bool
 |[],i=>
  some true
 |e::tl,i=>
  (gB s2 (i:Int)).bind fun e1=>
  (eq e e1).bind fun r=>
  if(!r)then
  (some false)
  else
  ((eM s2 eq tl) (i+1))

def fb(s1:(List (List aC)))(s2:(List (List aC)))(eq:((List aC)->(List aC)->Option Bool)):Option Bool:=
 if((s1.length:Int) !=(s2.length:Int))then
 (some false)
 else
 (eM s2 eq s1 0)

def jd(s2:(List aC)):List aC->Nat->Option Bool
 |[],i=>
  some true
 |e::tl,i=>
  (gB s2 (i:Int)).bind fun e1=>
  if(!decide (e=e1))then
  (some false)
  else
  ((jd s2 tl) (i+1))

def jT(s1:(List aC))(s2:(List aC)):Option Bool:=
 if((s1.length:Int) !=(s2.length:Int))then
 (some false)
 else
 (jd s2 s1 0)

def uF(p:(List aC))(y:(List aC)):Option Bool:=
 (jT p y).bind fun r=>
 some r

def wq(a1:np)(b:np):Option Bool:=
 (fb a1.Batch.Rows b.Batch.Rows uF).bind fun r=>
 some (((((((a1.Kind==b.Kind)&&(a1.Session==b.Session))&&(a1.Seq==b.Seq))&&(a1.Limit==b.Limit))&&(a1.Batch.End==b.Batch.End))&&(a1.Batch.Count==b.Batch.Count))&&r)

def nu(s2:(List Int)):List Int->Nat->Option Bool
 |[],i=>
  some true
 |e::tl,i=>
  (gB s2 (i:Int)).bind fun e1=>
  if(e !=e1)then
  (some false)
  else
  ((nu s2 tl) (i+1))

def mL(s1:(List Int))(s2:(List Int)):Option Bool:=
 if((s1.length:Int) !=(s2.length:Int))then
 (some false)
 else
 (nu s2 s1 0)

def jH(s2:(List kF)):List kF->Nat->Option Bool
 |[],i=>
  some true
 |e::tl,i=>
  (gB s2 (i:Int)).bind fun e1=>
  if(!decide (e=e1))then
  (some false)
  else
  ((jH s2 tl) (i+1))

def ou(s1:(List kF))(s2:(List kF)):Option Bool:=
 if((s1.length:Int) !=(s2.length:Int))then
 (some false)
 else
 (jH s2 s1 0)

def iB(s2:(List av)):List av->Nat->Option Bool
 |[],i=>
  some true
 |e::tl,i=>
  (gB s2 (i:Int)).bind fun e1=>
  if(!decide (e=e1))then
  (some false)
  else
  ((iB s2 tl) (i+1))

def mM(s1:(List av))(s2:(List av)):Option Bool:=
 if((s1.length:Int) !=(s2.length:Int))then
 (some false)
 else
 (iB s2 s1 0)

def za(a1:aW)(b:aW):Option Bool:=
 (mM a1.Nodes b.Nodes).bind fun r=>
 some r

def vL(p:fU)(q:fU):Option Bool:=
  (if(p.Tag==q.Tag)then((za p.Arg q.Arg).bind fun r=>
  some r)else some false).bind fun t=>
  some t

def eN(s2:(List fU))(eq:(fU->fU->Option Bool)):List fU->Nat->Option Bool
 |[],i=>
  some true
 |e::tl,i=>
  (gB s2 (i:Int)).bind fun e1=>
  (eq e e1).bind fun r=>
  if(!r)then
  (some false)
  else
  ((eN s2 eq tl) (i+1))

def ii(s1:(List fU))(s2:(List fU))(eq:(fU->fU->Option Bool)):Option Bool:=
 if((s1.length:Int) !=(s2.length:Int))then
 (some false)
 else
 (eN s2 eq s1 0)

def ei(s2:(List aW))(eq:(aW->aW->Option Bool)):List aW->Nat->Option Bool
 |[],i=>
  some true
 |e::tl,i=>
  (gB s2 (i:Int)).bind fun e1=>
  (eq e e1).bind fun r=>
  if(!r)then
  (some false)
  else
  ((ei s2 eq tl) (i+1))

def gG(s1:(List aW))(s2:(List aW))(eq:(aW->aW->Option Bool)):Option Bool:=
 if((s1.length:Int) !=(s2.length:Int))then
 (some false)
 else
 (ei s2 eq s1 0)

def vk(p:tV)(y:tV):Option Bool:=
  (if((((((p.Op==y.Op)&&(p.A==y.A))&&(p.B==y.B))&&(p.Table==y.Table))&&(p.Left==y.Left))&&(p.Limit==y.Limit))then((mL p.Kinds y.Kinds).bind fun r=>
  some r)else some false).bind fun t=>
  (if t then((mL p.Keys y.Keys).bind fun r1=>
  some r1)else some false).bind fun t1=>
  (if t1 then((ou p.Order y.Order).bind fun r2=>
  some r2)else some false).bind fun t2=>
  (if t2 then((za p.Cond y.Cond).bind fun r3=>
  some r3)else some false).bind fun t3=>
  (if t3 then((ii p.Aggs y.Aggs vL).bind fun r4=>
  some r4)else some false).bind fun t4=>
  (if t4 then((gG p.Items y.Items za).bind fun r5=>
  some r5)else some false).bind fun t5=>
  some t5

def eh(s2:(List dv))(eq:(dv->dv->Option Bool)):List dv->Nat->Option Bool
 |[],i=>
  some true
 |e::tl,i=>
  (gB s2 (i:Int)).bind fun e1=>
  (eq e e1).bind fun r=>
  if(!r)then
  (some false)
  else
  ((eh s2 eq tl) (i+1))

def gE(s1:(List dv))(s2:(List dv))(eq:(dv->dv->Option Bool)):Option Bool:=
 if((s1.length:Int) !=(s2.length:Int))then
 (some false)
 else
 (eh s2 eq s1 0)

def dL(s2:(List tV))(eq:(tV->tV->Option Bool)):List tV->Nat->Option Bool
 |[],i=>
  some true
 |e::tl,i=>
  (gB s2 (i:Int)).bind fun e1=>
  (eq e e1).bind fun r=>
  if(!r)then
  (some false)
  else
  ((dL s2 eq tl) (i+1))

def gb(s1:(List tV))(s2:(List tV))(eq:(tV->tV->Option Bool)):Option Bool:=
 if((s1.length:Int) !=(s2.length:Int))then
 (some false)
 else
 (dL s2 eq s1 0)

def yg(node:(tV->tV->Option Bool))(p:dv)(y:dv):Option Bool:=
  (if((p.At==y.At)&&(p.Way==y.Way))then((mL p.Cols y.Cols).bind fun r=>
  some r)else some false).bind fun t=>
  (if t then((gb p.Nodes y.Nodes node).bind fun r1=>
  some r1)else some false).bind fun t1=>
  some t1

def GR(a1:eV)(b:eV):Option Bool:=
 (gE a1.Frags b.Frags (yg vk)).bind fun r=>
 some r

def uG(a1:rY)(b:rY):Option Bool:=
  (if((decide (([a1.Kind,a1.From,a1.To,a1.Epoch,a1.Frag,a1.Sites])=([b.Kind,b.From,b.To,b.Epoch,b.Frag,b.Sites])))&&(a1.Err==b.Err))then((wq a1.Packet b.Packet).bind fun r=>
  some r)else some false).bind fun t=>
  (if t then((GR a1.Plan b.Plan).bind fun r1=>
  some r1)else some false).bind fun t1=>
  some t1

def uE(m:rY)(x:Bool):Option Bool:=
  if x then
  ((uG (rY.mk (0:Int) (0:Int) (0:Int) (0:Int) (0:Int) m.Sites m.Plan (⟨(0:Int),(0:Int),(0:Int),(0:Int),(⟨[],false,(0:Int)⟩:p9)⟩:np) m.Err) (⟨(0:Int),(0:Int),(0:Int),(0:Int),(0:Int),(0:Int),(⟨[]⟩:eV),(⟨(0:Int),(0:Int),(0:Int),(0:Int),(⟨[],false,(0:Int)⟩:p9)⟩:np),(0:Int)⟩:rY)).bind fun r1=>
  some r1)
  else
  (if(m.Kind==(5:Int))then
  ((uG (rY.mk (0:Int) (0:Int) (0:Int) (0:Int) m.Frag m.Sites m.Plan m.Packet (0:Int)) (⟨(0:Int),(0:Int),(0:Int),(0:Int),(0:Int),(0:Int),(⟨[]⟩:eV),(⟨(0:Int),(0:Int),(0:Int),(0:Int),(⟨[],false,(0:Int)⟩:p9)⟩:np),(0:Int)⟩:rY)).bind fun r2=>
  some r2)
  else
  ((uG (rY.mk (0:Int) (0:Int) (0:Int) (0:Int) m.Frag m.Sites m.Plan m.Packet m.Err) (⟨(0:Int),(0:Int),(0:Int),(0:Int),(0:Int),(0:Int),(⟨[]⟩:eV),(⟨(0:Int),(0:Int),(0:Int),(0:Int),(⟨[],false,(0:Int)⟩:p9)⟩:np),(0:Int)⟩:rY)).bind fun r3=>
  some r3))

def C0(m:rY):Option Bool:=
  if(m.Kind==(1:Int))then
  ((uG (rY.mk (0:Int) (0:Int) (0:Int) (0:Int) m.Frag (0:Int) (⟨[]⟩:eV) m.Packet m.Err) (⟨(0:Int),(0:Int),(0:Int),(0:Int),(0:Int),(0:Int),(⟨[]⟩:eV),(⟨(0:Int),(0:Int),(0:Int),(0:Int),(⟨[],false,(0:Int)⟩:p9)⟩:np),(0:Int)⟩:rY)).bind fun r=>
  some r)
  else
  (if(m.Kind==(3:Int))then
  (uE m (m.Kind==(3:Int)))
  else
  (uE m (m.Kind==(4:Int))))

def rU(c:Int):Option Bool:=
 some ((decide (c<(0:Int)))||(decide ((16:Int)<=c)))

def gC(f:(Int->Option Bool)):List Int->Nat->Option Int
 |[],i=>
  some (-1:Int)
 |e::tl,i=>
  (f e).bind fun r=>
  if r then
  (some (i:Int))
  else
  ((gC f tl) (i+1))

def mY(ac:(List Int))(f:(Int->Option Bool)):Option Int:=
 gC f ac 0

def fD(ac:(List Int))(f:(Int->Option Bool)):Option Bool:=
 (mY ac f).bind fun r=>
 some (decide ((0:Int)<=r))

def qj(k:Int):Option Bool:=
 some ((decide (k<(1:Int)))||(decide ((3:Int)<k)))

def kx(l:aq):Option (Bool×aq):=
 (fD ((({l with result:=l.n.Kinds}:aq).n).Kinds) qj).bind fun r=>
 some ((((((!r)&&(decide ((0:Int)<=((({l with result:=l.n.Kinds}:aq).n).Table))))&&(decide (((({l with result:=l.n.Kinds}:aq).n).Table)<(4:Int))))&&(decide ((0:Int)<(((({l with result:=l.n.Kinds}:aq).n).Kinds).length:Int))))&&(decide ((((({l with result:=l.n.Kinds}:aq).n).Kinds).length:Int)<=(4:Int)))),({l with result:=l.n.Kinds}:aq))

def ph(k:Int):Option Bool:=
 some ((decide (k<(0:Int)))||(decide ((4:Int)<k)))

def iH(l:aq):Option (Bool×aq):=
 (fD ((({l with result:=l.n.Kinds}:aq).n).Kinds) ph).bind fun r=>
 some ((((((!r)&&(decide ((0:Int)<=((({l with result:=l.n.Kinds}:aq).n).Table))))&&(decide (((({l with result:=l.n.Kinds}:aq).n).Table)<(30:Int))))&&(decide ((0:Int)<(((({l with result:=l.n.Kinds}:aq).n).Kinds).length:Int))))&&(decide ((((({l with result:=l.n.Kinds}:aq).n).Kinds).length:Int)<=(16:Int)))),({l with result:=l.n.Kinds}:aq))

def nW(ac:List Int):Option (List Int):=
 some ac

def nX(n:Int):Option (List Int):=
  if(decide ((0:Int)<(IntKind.i64.wrap (n-(IntKind.i64.wrap ((0:Int)-(0:Int)))))))then
  ((gt0 (IntKind.i64.wrap (n-(IntKind.i64.wrap ((0:Int)-(0:Int)))))).bind fun _=>
  (wG (IntKind.i64.wrap (n-(IntKind.i64.wrap ((0:Int)-(0:Int))))) (0:Int)).bind fun mk=>
  (eX mk 0 (0:Int)).bind fun y=>
  nW y)
  else
  (nW ([]:List Int))

def nh(n:Int):Option (List Int):=
 if(decide (n<(0:Int)))then
 (none)
 else
 (nX n)

def j6:List (List Int)->(List Int)->Option (List Int)
 |[],newslice=>
  some newslice
 |e1::tl1,newslice=>
  (app newslice e1).bind fun newslice1=>
  (j6 tl1) newslice1

def j7(slices:(List (List Int))):List (List Int)->Int->Option (List Int)
 |[],size=>
  (nh size).bind fun r=>
  j6 slices r
 |e::tl,size=>
  if(decide ((IntKind.i64.wrap (size+(e.length:Int)))<(0:Int)))then
  (none)
  else
  ((j7 slices tl) (IntKind.i64.wrap (size+(e.length:Int))))

def jO(slices:(List (List Int))):Option (List Int):=
 j7 slices slices (0:Int)

def sO(tag:Int):Option Int:=
  if((tag==(1:Int))||(tag==(2:Int)))then
  (some (0:Int))
  else
  (if((decide ((4:Int)<=tag))&&(decide (tag<=(7:Int))))then
  (some (1:Int))
  else
  (if((decide ((12:Int)<=tag))&&(decide (tag<=(23:Int))))then
  (some (2:Int))
  else
  (some (-1:Int))))

def lL(v1:aC):Option aC:=
 some v1

def rK(v2:aC):Option aC:=
 lL (aC.mk (0:Int) v2.N v2.U v2.S)

def rJ(v:aC):Option aC:=
 rK (aC.mk v.Kind (0:Int) v.U v.S)

def rG(v3:aC):Option aC:=
 lL v3

def xU(v:aC):Option aC:=
  if(v.Kind==(1:Int))then
  (if((v.N !=(0:Int))&&(v.N !=(1:Int)))then
  (lL v)
  else
  (rJ v))
  else
  (if(v.Kind==(2:Int))then
  (rJ v)
  else
  (if(v.Kind==(0:Int))then
  (rK v)
  else
  (if(v.Kind==(3:Int))then
  (if(decide ((v.S.length:Int)<=(40:Int)))then
  (rG (aC.mk (0:Int) v.N v.U ([])))
  else
  (rG v))
  else
  (if(v.Kind==(4:Int))then
  (lL (aC.mk (0:Int) (0:Int) (0:Int) v.S))
  else
  (lL v)))))

def iU(v:aC):Option Int:=
 (xU v).bind fun r=>
 if(!decide (r=(⟨(0:Int),(0:Int),(0:Int),[]⟩:aC)))then
 (some (120:Int))
 else
 (some (0:Int))

def u4(v:aC):Option Bool:=
 (iU v).bind fun r=>
 some ((r==(0:Int))&&(v.Kind !=(4:Int)))

def vw(n:av):Option Bool:=
  if(n.Tag==(1:Int))then
  ((u4 n.Value).bind fun r=>
  some (r&&(n.Col==(0:Int))))
  else
  (if(n.Tag==(2:Int))then
  (some (((decide (n.Value=(⟨(0:Int),(0:Int),(0:Int),[]⟩:aC)))&&(decide ((0:Int)<=n.Col)))&&(decide (n.Col<(16:Int)))))
  else
  (some ((decide (n.Value=(⟨(0:Int),(0:Int),(0:Int),[]⟩:aC)))&&(n.Col==(0:Int)))))

def nK(nx:Nat->(List Int)->(List Int)->Option ((List Int)×Bool))(i:Nat)(e1:av)(all:List Int)(open1:List Int)(r:Int):List Int->Nat->Int->(List Int)->Option ((List Int)×Bool)
  |[],i1,first,at1=>
    if(!decide (at1=([e1.L,e1.R])))then
    (some ([],false))
    else
    ((app all ([first])).bind fun all1=>
    (eX open1 0 (IntKind.i64.wrap ((open1.length:Int)-r))).bind fun y1=>
    (app y1 ([(i:Int)])).bind fun open2=>
    nx (i+1) all1 open2)
  |e2::tl1,i1,first,at1=>
    (gB all e2).bind fun e3=>
    (gB at1 (i1:Int)).bind fun e4=>
    (some (at1.set (i1:Int).toNat e2)).bind fun ar=>
    (nK nx i e1 all open1 r tl1) (i1+1) (min first e3) ar

def mb:List av->Nat->(List Int)->(List Int)->Option ((List Int)×Bool)
  |[],i,all,open1=>
    some (all,(((open1.length:Int)==(1:Int))&&(decide ((all.length:Int)<=(1000:Int)))))
  |e1::tl,i,all,open1=>
    (sO e1.Tag).bind fun r=>
    (if(!((decide (r<(0:Int)))||(decide ((open1.length:Int)<r))))then((vw e1).bind fun r1=>
    some (!r1))else some true).bind fun t=>
    if t then
    (some ([],false))
    else
    ((eX open1 (IntKind.i64.wrap ((open1.length:Int)-r)) (open1.length:Int)).bind fun y=>
    nK (mb tl) i e1 all open1 r y 0 (i:Int) ([(-1:Int),(-1:Int)]))

def yF(e:aW):Option ((List Int)×Bool):=
 mb e.Nodes 0 ([]:List Int) ([]:List Int)

def uK(e:aW):Option Int:=
 (yF e).bind fun r=>
 if(!r.2)then
 (some (200:Int))
 else
 (some (0:Int))

def fc(i:Nat)(y:List Int):Nat->Nat->(List Int)->Int->Option (List Int)
  |0,i1,s1,k=>
    (eX s1 k (s1.length:Int)).bind fun y1=>
    (some (s1.take k.toNat++List.replicate y1.length (0:Int))).bind fun cl=>
    (eX cl 0 k).bind fun y2=>
    some y2
  |k2+1,i1,s1,k=>
    (F6 s1 (i:Int) y.length (i1:Int)).bind fun e3=>
    (F6 s1 (i:Int) y.length (IntKind.i64.wrap ((i1:Int)-(1:Int)))).bind fun e4=>
    if(e3 !=e4)then
    ((F6 s1 (i:Int) y.length (i1:Int)).bind fun e5=>
    (gB s1 k).bind fun e6=>
    (some (s1.set k.toNat e5)).bind fun st=>
    (fc i y k2) (i1+1) st (IntKind.i64.wrap (k+(1:Int))))
    else
    ((fc i y k2) (i1+1) s1 k)

def gh(ac:(List Int)):List Int->Nat->Option (List Int)
  |[],i=>
    some ac
  |e::tl,i=>
    (gB ac (IntKind.i64.wrap ((i:Int)-(1:Int)))).bind fun e1=>
    if(e==e1)then
    ((eX ac (i:Int) (ac.length:Int)).bind fun y=>
    fc i y (y.length-1) 1 ac (i:Int))
    else
    ((gh ac tl) (i+1))

def lk(ac:(List Int)):Option (List Int):=
 if(decide ((ac.length:Int)<(2:Int)))then
 (some ac)
 else
 (gh ac (ac.drop (1)) 1)

def ol:List av->(List Int)->Option (List Int)
  |[],out=>
    (Eb out).bind fun srt=>
    (lk srt).bind fun r1=>
    some r1
  |e1::tl,out=>
    if(e1.Tag==(2:Int))then
    ((app out ([e1.Col])).bind fun out1=>
    (ol tl) out1)
    else
    ((ol tl) out)

def wu(e:aW):Option (List Int):=
 (uK e).bind fun r=>
 if(r !=(0:Int))then
 (some ([]:List Int))
 else
 (ol e.Nodes ([]:List Int))

def eG(ac:(List Int)):Option (List Int):=
 (app ([]:List Int) ac).bind fun x=>
 some x

def qT(stack:(List Int))(k:Int):Option ((List Int)×(List Int)):=
 (eX stack (IntKind.i64.wrap ((stack.length:Int)-k)) (stack.length:Int)).bind fun y=>
 (eG y).bind fun r=>
 (eX stack 0 (IntKind.i64.wrap ((stack.length:Int)-k))).bind fun y1=>
 some (r,y1)

def nJ(bad:Int)(stack:List Int):Option (Int×Int):=
  if(bad !=(0:Int))then
  (some ((0:Int),bad))
  else
  ((gB stack (0:Int)).bind fun e1=>
  some (e1,(0:Int)))

def i0(do1:(av->(List Int)->Option (Int×Int))):List av->Int->(List Int)->Option (Int×Int)
  |[],bad1,stack1=>
    nJ bad1 stack1
  |e2::tl,bad1,stack1=>
    (sO e2.Tag).bind fun r=>
    (qT stack1 r).bind fun r1=>
    (do1 e2 r1.1).bind fun r2=>
    if(r2.2 !=(0:Int))then
    (nJ r2.2 r1.2)
    else
    ((app r1.2 ([r2.1])).bind fun l2=>
    (i0 do1 tl) bad1 l2)

def qM(e:aW)(do1:(av->(List Int)->Option (Int×Int))):Option (Int×Int):=
 i0 do1 e.Nodes (0:Int) ([]:List Int)

def xy(tag:Int):Option Bool:=
 some ((tag==(4:Int))||((decide ((12:Int)<=tag))&&(decide (tag<=(15:Int)))))

def nL(kinds:(List Int))(n:av):List Int->Int->Option (Int×Int)
  |[],own=>
    if(n.Tag==(1:Int))then
    (some (n.Value.Kind,(0:Int)))
    else
    (if(n.Tag==(2:Int))then
    ((gB kinds n.Col).bind fun e1=>
    some (e1,(0:Int)))
    else
    ((xy n.Tag).bind fun r=>
    if r then
    (if((own==(-1:Int))||((own !=(0:Int))&&(own !=(2:Int))))then
    (some ((0:Int),(201:Int)))
    else
    (some ((2:Int),(0:Int))))
    else
    (if(((n.Tag==(5:Int))||(n.Tag==(22:Int)))||(n.Tag==(23:Int)))then
    (if((own==(-1:Int))||((own !=(0:Int))&&(own !=(1:Int))))then
    (some ((0:Int),(201:Int)))
    else
    (some ((1:Int),(0:Int))))
    else
    (if((own==(-1:Int))||((own !=(0:Int))&&(own !=own)))then
    (some ((0:Int),(201:Int)))
    else
    (some ((1:Int),(0:Int)))))))
  |e::tl,own=>
    if((e==(0:Int))||(e==own))then
    ((nL kinds n tl) own)
    else
    (if(own==(0:Int))then
    ((nL kinds n tl) e)
    else
    ((nL kinds n tl) (-1:Int)))

def kC(kinds:(List Int))(n:av)(l:(List Int)):Option (Int×Int):=
 nL kinds n l (0:Int)

def oh(e:aW)(kinds:(List Int)):List Int->Option (Int×Int)
 |[]=>
  (qM e (kC kinds)).bind fun r2=>
  some (r2.1,r2.2)
 |e2::tl1=>
  if(decide ((kinds.length:Int)<=e2))then
  (some ((0:Int),(2:Int)))
  else
  ((oh e kinds tl1))

def rW(e:aW)(kinds:(List Int)):List Int->Option (Int×Int)
 |[]=>
  (wu e).bind fun r1=>
  oh e kinds r1
 |e1::tl=>
  if((decide (e1<(0:Int)))||(decide ((3:Int)<e1)))then
  (some ((0:Int),(2:Int)))
  else
  ((rW e kinds tl))

def oU(e:aW)(kinds:(List Int)):Option (Int×Int):=
 (uK e).bind fun r=>
 if(r !=(0:Int))then
 (some ((0:Int),r))
 else
 (rW e kinds kinds)

def kY(e:aW)(kinds:(List Int)):Option Bool:=
 (oU e kinds).bind fun r=>
 some ((r.2==(0:Int))&&((r.1==(0:Int))||(r.1==(1:Int))))

def iD(l:aq):Option (Bool×aq):=
 (jO ([l.a_,l.b])).bind fun r=>
 (kY ((({l with result:=r}:aq).n).Cond) (({l with result:=r}:aq).result)).bind fun r1=>
 some (r1,({l with result:=r}:aq))

def gu(l:aq):Option (Bool×aq):=
 (kY ((({l with result:=l.a_}:aq).n).Cond) (({l with result:=l.a_}:aq).a_)).bind fun r=>
 some (r,({l with result:=l.a_}:aq))

def fz(nx1:Bool->aq->Option (Bool×aq))(ob1:aq)(ok1:Bool)(k:Int):Option (Bool×aq):=
 (app ob1.result ([k])).bind fun l7=>
 nx1 ok1 ({ob1 with result:=l7}:aq)

def iM(nx1:Bool->aq->Option (Bool×aq))(e1:fU)(ok:Bool)(ob1:aq)(r:Int×Int)(x:Bool):Option (Bool×aq):=
 if x then
 (fz nx1 ob1 (((ok&&(r.2==(0:Int)))&&(decide ((1:Int)<e1.Tag)))&&(decide (e1.Tag<=(5:Int)))) r.1)
 else
 (fz nx1 ob1 (((ok&&(r.2==(0:Int)))&&(decide ((1:Int)<e1.Tag)))&&(decide (e1.Tag<=(5:Int)))) (2:Int))

def cN:List fU->Bool->aq->Option (Bool×aq)
  |[],ok,ob1=>
    some (ok,ob1)
  |e1::tl1,ok,ob1=>
    if(e1.Tag==(1:Int))then
    (fz (cN tl1) ob1 (ok&&((e1.Arg.Nodes.length:Int)==(0:Int))) (2:Int))
    else
    ((oU e1.Arg ob1.a_).bind fun r=>
    if(e1.Tag==(3:Int))then
    (fz (cN tl1) ob1 ((((ok&&(r.2==(0:Int)))&&(decide ((1:Int)<e1.Tag)))&&(decide (e1.Tag<=(5:Int))))&&((r.1==(2:Int))||(r.1==(0:Int)))) (2:Int))
    else
    (if(e1.Tag==(4:Int))then
    (iM (cN tl1) e1 ok ob1 r (e1.Tag==(4:Int)))
    else
    (iM (cN tl1) e1 ok ob1 r (e1.Tag==(5:Int)))))

def dV(l:aq):List Int->aq->Option (Bool×aq)
  |[],ob=>
    cN l.n.Aggs (((decide ((l.n.Keys.length:Int)<=(3:Int)))&&(decide ((l.n.Aggs.length:Int)<=(12:Int))))&&(decide ((0:Int)<(IntKind.i64.wrap ((l.n.Keys.length:Int)+(l.n.Aggs.length:Int)))))) ob
  |e::tl,ob=>
    if((decide (e<(0:Int)))||(decide ((ob.a_.length:Int)<=e)))then
    (some (false,ob))
    else
    ((gB ob.a_ e).bind fun e2=>
    (app ob.result ([e2])).bind fun l9=>
    (dV l tl) ({ob with result:=l9}:aq))

def fd(l:aq):Option (Bool×aq):=
 dV l l.n.Keys ({l with result:=([]:List Int)}:aq)

def gc:List fU->Nat->aq->Option (Bool×aq)
  |[],i1,ob=>
    some (true,ob)
  |e::tl,i1,ob=>
    if(e.Tag==(3:Int))then
    ((gB ob.result (IntKind.i64.wrap ((ob.n.Keys.length:Int)+(i1:Int)))).bind fun e1=>
    (some (ob.result.set (IntKind.i64.wrap ((ob.n.Keys.length:Int)+(i1:Int))).toNat (4:Int))).bind fun st=>
    (gc tl) (i1+1) ({ob with result:=st}:aq))
    else
    ((gc tl) (i1+1) ob)

def eO(l:aq):Option (Bool×aq):=
 (fd l).bind fun r=>
 if(!r.1)then
 (some (false,r.2))
 else
 (gc r.2.n.Aggs 0 r.2)

def iN(nx1:Nat->Bool->aq->Option (Bool×aq))(i1:Nat)(e2:fU)(ok1:Bool)(ob:aq)(e3:Int)(x1:Bool):Option (Bool×aq):=
 if x1 then
 (nx1 (i1+1) ((ok1&&((e2.Arg.Nodes.length:Int)==(0:Int)))&&(e3 !=(4:Int))) ob)
 else
 (nx1 (i1+1) false ob)

def gj(l:aq)(nx1:Nat->Bool->aq->Option (Bool×aq))(i1:Nat)(e2:fU)(ok1:Bool)(ob:aq)(e3:Int)(x:Bool):Option (Bool×aq):=
  if x then
  (nx1 (i1+1) ((ok1&&((e2.Arg.Nodes.length:Int)==(0:Int)))&&(e3==(2:Int))) ob)
  else
  (if(e2.Tag==(3:Int))then
  ((gB ob.result (IntKind.i64.wrap ((l.n.Keys.length:Int)+(i1:Int)))).bind fun e4=>
  (some (ob.result.set (IntKind.i64.wrap ((l.n.Keys.length:Int)+(i1:Int))).toNat (2:Int))).bind fun st=>
  nx1 (i1+1) ((ok1&&((e2.Arg.Nodes.length:Int)==(0:Int)))&&(e3==(4:Int))) ({ob with result:=st}:aq))
  else
  (if(e2.Tag==(4:Int))then
  (iN nx1 i1 e2 ok1 ob e3 (e2.Tag==(4:Int)))
  else
  (iN nx1 i1 e2 ok1 ob e3 (e2.Tag==(5:Int)))))

def cz(l:aq):List fU->Nat->Bool->aq->Option (Bool×aq)
 |[],i1,ok1,ob=>
  some (ok1,ob)
 |e2::tl1,i1,ok1,ob=>
  (gB ob.a_ (IntKind.i64.wrap ((l.n.Keys.length:Int)+(i1:Int)))).bind fun e3=>
  if(e2.Tag==(1:Int))then
  (gj l (cz l tl1) i1 e2 ok1 ob e3 (e2.Tag==(1:Int)))
  else
  (gj l (cz l tl1) i1 e2 ok1 ob e3 (e2.Tag==(2:Int)))

def eP(l:aq)(r:(List Int)):List Int->Nat->Bool->Option (Bool×aq)
  |[],i,ok=>
    cz l l.n.Aggs 0 ok ({l with result:=r}:aq)
  |e1::tl,i,ok=>
    (if(ok&&(e1==(i:Int)))then((gB l.a_ (i:Int)).bind fun e5=>
    some (e5 !=(4:Int)))else some false).bind fun t=>
    (eP l r tl) (i+1) t

def d7(l:aq):Option (Bool×aq):=
  (gB l.nodes l.n.A).bind fun e=>
  if(!((((e.Op==(9:Int))&&(decide ((l.n.Keys.length:Int)<=(3:Int))))&&(decide ((l.n.Aggs.length:Int)<=(12:Int))))&&((IntKind.i64.wrap ((l.n.Keys.length:Int)+(l.n.Aggs.length:Int)))==(l.a_.length:Int))))then
  (some (false,l))
  else
  ((eG l.a_).bind fun r=>
  eP l r l.n.Keys 0 ((((e.Op==(9:Int))&&(decide ((l.n.Keys.length:Int)<=(3:Int))))&&(decide ((l.n.Aggs.length:Int)<=(12:Int))))&&((IntKind.i64.wrap ((l.n.Keys.length:Int)+(l.n.Aggs.length:Int)))==(l.a_.length:Int))))

def fi:List aW->aq->Option (Bool×aq)
  |[],ob=>
    some (decide ((0:Int)<(ob.result.length:Int)),ob)
  |e::tl,ob=>
    (oU e ob.a_).bind fun r=>
    if(r.2 !=(0:Int))then
    (some (false,ob))
    else
    ((app ob.result ([r.1])).bind fun l4=>
    (fi tl) ({ob with result:=l4}:aq))

def jk(l:aq):Option (Bool×aq):=
 fi l.n.Items ({l with result:=([]:List Int)}:aq)

def mC(l:aq):Option (Bool×aq):=
 some (true,({l with result:=l.a_}:aq))

def gi(nx:Nat->aq->Option (Bool×aq))(i:Nat)(ob:aq)(e1:Int)(k:Int):Option (Bool×aq):=
  if((e1 !=(0:Int))&&(e1 !=k))then
  (some (false,ob))
  else
  ((app ob.result ([k])).bind fun l4=>
  nx (i+1) ({ob with result:=l4}:aq))

def dR:List Int->Nat->aq->Option (Bool×aq)
 |[],i,ob=>
  some (true,ob)
 |e::tl,i,ob=>
  (gB ob.b (i:Int)).bind fun e1=>
  if(e==(0:Int))then
  (gi (dR tl) i ob e1 e1)
  else
  (gi (dR tl) i ob e1 e)

def jE(l:aq):Option (Bool×aq):=
 if((l.a_.length:Int) !=(l.b.length:Int))then
 (some (false,l))
 else
 (dR l.a_ 0 ({l with result:=([]:List Int)}:aq))

def eF(f:(kF->Option Bool)):List kF->Nat->Option Int
 |[],i=>
  some (-1:Int)
 |e::tl,i=>
  (f e).bind fun r=>
  if r then
  (some (i:Int))
  else
  ((eF f tl) (i+1))

def je(ac:(List kF))(f:(kF->Option Bool)):Option Int:=
 eF f ac 0

def fX(ac:(List kF))(f:(kF->Option Bool)):Option Bool:=
 (je ac f).bind fun r=>
 some (decide ((0:Int)<=r))

def nC(l:aq)(o:kF):Option Bool:=
 some ((decide (o.Col<(0:Int)))||(decide ((l.a_.length:Int)<=o.Col)))

def kw(l:aq):Option (Bool×aq):=
 (fX ((({l with result:=l.a_}:aq).n).Order) (nC ({l with result:=l.a_}:aq))).bind fun r=>
 some (((((!r)&&(decide ((((({l with result:=l.a_}:aq).n).Order).length:Int)<=(3:Int))))&&(decide ((-1:Int)<=((({l with result:=l.a_}:aq).n).Limit))))&&(decide (((({l with result:=l.a_}:aq).n).Limit)<=(2147483647:Int)))),({l with result:=l.a_}:aq))

def mD:Option (List (Int×(aq->Unit->Option (Bool×aq)))):=
 some (hX (hX (hX (hX (hX (hX (hX (hX (hX (hX (hX ([]:List (Int×(aq->Unit->Option (Bool×aq)))) (1:Int) (fun(mc:aq) (mx:Unit)=>kx mc)) (9:Int) (fun(mc:aq) (mx:Unit)=>iH mc)) (2:Int) (fun(mc:aq) (mx:Unit)=>iD mc)) (3:Int) (fun(mc:aq) (mx:Unit)=>gu mc)) (4:Int) (fun(mc:aq) (mx:Unit)=>fd mc)) (10:Int) (fun(mc:aq) (mx:Unit)=>eO mc)) (11:Int) (fun(mc:aq) (mx:Unit)=>d7 mc)) (5:Int) (fun(mc:aq) (mx:Unit)=>jk mc)) (6:Int) (fun(mc:aq) (mx:Unit)=>mC mc)) (7:Int) (fun(mc:aq) (mx:Unit)=>jE mc)) (8:Int) (fun(mc:aq) (mx:Unit)=>kw mc))

def kb(x2:Bool):Option Int:=
 if x2 then
 (some (1:Int))
 else
 (some (-1:Int))

def sZ(op:Int)(x1:Bool):Option Int:=
  if x1 then
  (some (2:Int))
  else
  (if(op==(3:Int))then
  (kb (op==(3:Int)))
  else
  (if(op==(4:Int))then
  (kb (op==(4:Int)))
  else
  (if(op==(5:Int))then
  (kb (op==(5:Int)))
  else
  (if(op==(6:Int))then
  (kb (op==(6:Int)))
  else
  (if(op==(8:Int))then
  (kb (op==(8:Int)))
  else
  (if(op==(10:Int))then
  (kb (op==(10:Int)))
  else
  (kb (op==(11:Int)))))))))

def s0(op:Int)(x:Bool):Option Int:=
  if x then
  (some (0:Int))
  else
  (if(op==(2:Int))then
  (sZ op (op==(2:Int)))
  else
  (sZ op (op==(7:Int))))

def w3(op:Int):Option Int:=
 if(op==(1:Int))then
 (s0 op (op==(1:Int)))
 else
 (s0 op (op==(9:Int)))

def sE(n:tV):Option Bool:=
 some ((((((((n.Op==(1:Int))||(n.Op==(9:Int)))||((n.Table==(0:Int))&&((n.Kinds.length:Int)==(0:Int))))&&((n.Op==(2:Int))||(!n.Left)))&&(((n.Op==(2:Int))||(n.Op==(3:Int)))||((n.Cond.Nodes.length:Int)==(0:Int))))&&((((n.Op==(4:Int))||(n.Op==(10:Int)))||(n.Op==(11:Int)))||((IntKind.i64.wrap ((n.Keys.length:Int)+(n.Aggs.length:Int)))==(0:Int))))&&((n.Op==(5:Int))||((n.Items.length:Int)==(0:Int))))&&((n.Op==(8:Int))||(((n.Order.length:Int)==(0:Int))&&(n.Limit==(0:Int)))))

def iV(v:Int):List Int->Nat->Option Int
 |[],i=>
  some (-1:Int)
 |e::tl,i=>
  if(v==e)then
  (some (i:Int))
  else
  ((iV v tl) (i+1))

def pB(ac:(List Int))(v:Int):Option Int:=
 iV v ac 0

def gR(ac:(List Int))(v:Int):Option Bool:=
 (pB ac v).bind fun r=>
 some (decide ((0:Int)<=r))

def bw(l:aq)(i:Int)(ask:(aq->Unit->Option (Bool×aq)))(e:tV)(r:Int):List Int->Nat->(List Int)->(List Int)->Option (Bool×aq)
  |[],i5,a_,b3=>
    if(((e.Op==(8:Int))||(e.Op==(10:Int)))&&(i !=(IntKind.i64.wrap (((({({({({({l with n:=e}:aq)with a_:=[]}:aq)with b:=[]}:aq)with a_:=a_}:aq)with b:=b3}:aq).nodes).length:Int)-(1:Int)))))then
    (some (false,({({({({({l with n:=e}:aq)with a_:=[]}:aq)with b:=[]}:aq)with a_:=a_}:aq)with b:=b3}:aq)))
    else
    ((ask ({({({({({l with n:=e}:aq)with a_:=[]}:aq)with b:=[]}:aq)with a_:=a_}:aq)with b:=b3}:aq) ()).bind fun r2=>
    if((!r2.1)||(decide ((16:Int)<(r2.2.result.length:Int))))then
    (some (false,r2.2))
    else
    ((app r2.2.kinds ([r2.2.result])).bind fun l1=>
    (eX r2.2.open_ 0 (IntKind.i64.wrap ((r2.2.open_.length:Int)-r))).bind fun y2=>
    (app y2 ([i])).bind fun l2=>
    some (true,({({r2.2 with kinds:=l1}:aq)with open_:=l2}:aq))))
  |e1::tl,i5,a_,b3=>
    (gB l.kinds e1).bind fun e2=>
    (if(e.Op !=(11:Int))then((gR e2 (4:Int)).bind fun r3=>
    some r3)else some false).bind fun t1=>
    if t1 then
    (some (false,({({({({({l with n:=e}:aq)with a_:=[]}:aq)with b:=[]}:aq)with a_:=a_}:aq)with b:=b3}:aq)))
    else
    (if((i5:Int)==(0:Int))then
    ((bw l i ask e r tl) (i5+1) (({({({({({({l with n:=e}:aq)with a_:=[]}:aq)with b:=[]}:aq)with a_:=a_}:aq)with b:=b3}:aq)with a_:=e2}:aq).a_) (({({({({({({l with n:=e}:aq)with a_:=[]}:aq)with b:=[]}:aq)with a_:=a_}:aq)with b:=b3}:aq)with a_:=e2}:aq).b))
    else
    ((bw l i ask e r tl) (i5+1) (({({({({({({l with n:=e}:aq)with a_:=[]}:aq)with b:=[]}:aq)with a_:=a_}:aq)with b:=b3}:aq)with b:=e2}:aq).a_) (({({({({({({l with n:=e}:aq)with a_:=[]}:aq)with b:=[]}:aq)with a_:=a_}:aq)with b:=b3}:aq)with b:=e2}:aq).b)))

def dC(l:aq)(i:Int)(ask:(aq->Unit->Option (Bool×aq))):Option (Bool×aq):=
  (gB l.nodes i).bind fun e=>
  (w3 e.Op).bind fun r=>
  (if(!((decide (r<(0:Int)))||(decide ((l.open_.length:Int)<r))))then((sE e).bind fun r1=>
  some (!r1))else some true).bind fun t=>
  if t then
  (some (false,l))
  else
  ((eX l.open_ (IntKind.i64.wrap ((l.open_.length:Int)-r)) (l.open_.length:Int)).bind fun y=>
  if(!decide ((qx ([(-1:Int),(-1:Int)]) y)=([e.A,e.B])))then
  (some (false,l))
  else
  ((eX l.open_ (IntKind.i64.wrap ((l.open_.length:Int)-r)) (l.open_.length:Int)).bind fun y1=>
  bw l i ask e r y1 0 (({({({l with n:=e}:aq)with a_:=[]}:aq)with b:=[]}:aq).a_) (({({({l with n:=e}:aq)with a_:=[]}:aq)with b:=[]}:aq).b)))

def oM:List (List Int)->(List (List Int))->Option ((List (List Int))×Int×Int)
 |[],out=>
  some (out,(0:Int),(0:Int))
 |e::tl,out=>
  (eG e).bind fun r1=>
  (app out ([r1])).bind fun out1=>
  (oM tl) out1

def m5(ob:aq)(wrong1:Int):Option ((List (List Int))×Int×Int):=
 if(decide ((0:Int)<=wrong1))then
 (some ([],wrong1,(291:Int)))
 else
 (oM ob.kinds ([]:List (List Int)))

def kc(nodes:(List tV))(wrong:Int)(ob:aq):Option ((List (List Int))×Int×Int):=
 if((decide (wrong<(0:Int)))&&((ob.open_.length:Int) !=(1:Int)))then
 (m5 ob (IntKind.i64.wrap ((nodes.length:Int)-(1:Int))))
 else
 (m5 ob wrong)

def fY(nodes:(List tV))(r:(List (Int×(aq->Unit->Option (Bool×aq))))):List tV->Nat->Int->aq->Option ((List (List Int))×Int×Int)
 |[],i1,wrong2,ob1=>
  kc nodes wrong2 ob1
 |e1::tl1,i1,wrong2,ob1=>
  (dC ob1 (i1:Int) ((uY r e1.Op).getD (fun _ _=>none))).bind fun r2=>
  if(!r2.1)then
  (kc nodes (i1:Int) r2.2)
  else
  ((fY nodes r tl1) (i1+1) wrong2 r2.2)

def jV(nodes:(List tV)):Option ((List (List Int))×Int×Int):=
  if((decide ((nodes.length:Int)<(1:Int)))||(decide ((60:Int)<(nodes.length:Int))))then
  (some ([],(0:Int),(291:Int)))
  else
  ((mD).bind fun r=>
  fY nodes r nodes 0 (-1:Int) (⟨nodes,[],[],(⟨(0:Int),(0:Int),(0:Int),(0:Int),[],false,(⟨[]⟩:aW),[],[],[],[],(0:Int)⟩:tV),[],[],[]⟩:aq))

def oR(p:eV):List dv->Option Bool
  |[]=>
    some ((decide ((1:Int)<=(p.Frags.length:Int)))&&(decide ((p.Frags.length:Int)<=(30:Int))))
  |e::tl=>
    (jV e.Nodes).bind fun r=>
    (if(((decide ((1:Int)<=e.Way))&&(decide (e.Way<=(4:Int))))&&(decide ((e.Cols.length:Int)<=(16:Int))))then((fD e.Cols rU).bind fun r1=>
    some (!r1))else some false).bind fun t=>
    if(((r.2.2 !=(0:Int))||(!((e.At==(1:Int))||(e.At==(2:Int)))))||(!t))then
    (some false)
    else
    ((oR p tl))

def pV(p:eV):Option Bool:=
 oR p p.Frags

def Bn(n:Int):Option Bool:=
 some ((decide ((1:Int)<=n))&&(decide (n<=(2147483647:Int))))

def iA(f:((List aC)->Option Bool)):List (List aC)->Nat->Option Int
 |[],i=>
  some (-1:Int)
 |e::tl,i=>
  (f e).bind fun r=>
  if r then
  (some (i:Int))
  else
  ((iA f tl) (i+1))

def mK(ac:(List (List aC)))(f:((List aC)->Option Bool)):Option Int:=
 iA f ac 0

def lx(ac:(List (List aC)))(f:((List aC)->Option Bool)):Option Bool:=
 (mK ac f).bind fun r=>
 some (decide ((0:Int)<=r))

def yb(v:aC):Option Bool:=
 (iU v).bind fun r=>
 some (r !=(0:Int))

def hY(f:(aC->Option Bool)):List aC->Nat->Option Int
 |[],i=>
  some (-1:Int)
 |e::tl,i=>
  (f e).bind fun r=>
  if r then
  (some (i:Int))
  else
  ((hY f tl) (i+1))

def lM(ac:(List aC))(f:(aC->Option Bool)):Option Int:=
 hY f ac 0

def kH(ac:(List aC))(f:(aC->Option Bool)):Option Bool:=
 (lM ac f).bind fun r=>
 some (decide ((0:Int)<=r))

def GL(r:(List aC)):Option Bool:=
  (if(decide ((r.length:Int)<=(16:Int)))then((kH r yb).bind fun r1=>
  some (!r1))else some false).bind fun t=>
  some t

def GO(r:(List aC)):Option Int:=
 (GL r).bind fun r1=>
 if(!r1)then
 (some (150:Int))
 else
 (some (0:Int))

def CX(r:(List aC)):Option Bool:=
 (GO r).bind fun r1=>
 some (r1 !=(0:Int))

def G7(l:(List (List aC))):Option Bool:=
  (if((decide ((0:Int)<(l.length:Int)))&&(decide ((l.length:Int)<=(4:Int))))then((lx l CX).bind fun r=>
  some (!r))else some false).bind fun t=>
  some t

def EP(b:p9)(seq:Int):Option Bool:=
  if((decide (seq<(1:Int)))||(decide ((1099511627776:Int)<seq)))then
  (some false)
  else
  (if b.End then
  (some (((b.Rows.length:Int)==(0:Int))&&(b.Count==(IntKind.u64.wrap (seq-(1:Int))))))
  else
  ((if(b.Count==(0:Int))then((G7 b.Rows).bind fun r=>
  some r)else some false).bind fun t=>
  some t))

def GM(a1:(List aC))(b:(List aC)):Option Bool:=
 (jT a1 b).bind fun r=>
 some r

def JF(a1:(List (List aC)))(b:(List (List aC))):Option Bool:=
 (fb a1 b GM).bind fun r=>
 some r

def G0(a1:p9)(b:p9):Option Bool:=
  (if((a1.End==b.End)&&(a1.Count==b.Count))then((JF a1.Rows b.Rows).bind fun r=>
  some r)else some false).bind fun t=>
  some t

def wp(p:np):Option Int:=
  (Bn p.Session).bind fun r=>
  if(p.Kind==(1:Int))then
  ((if(r&&(p.Limit==(0:Int)))then((EP p.Batch p.Seq).bind fun r1=>
  some r1)else some false).bind fun t=>
  if(!t)then
  (some (321:Int))
  else
  (some (0:Int)))
  else
  (if(p.Kind==(2:Int))then
  ((if r then((G0 p.Batch (⟨[],false,(0:Int)⟩:p9)).bind fun r2=>
  some r2)else some false).bind fun t1=>
  if(!((((t1&&(decide ((1:Int)<=p.Seq)))&&(decide (p.Seq<=(1099511627777:Int))))&&(decide ((IntKind.u64.wrap (p.Seq-(1:Int)))<=p.Limit)))&&(decide (p.Limit<=(1099511627776:Int)))))then
  (some (321:Int))
  else
  (some (0:Int)))
  else
  (if(!false)then
  (some (321:Int))
  else
  (some (0:Int))))

def lY(m:rY)(kind:Int):Option Bool:=
  (if(((decide ((0:Int)<=m.Frag))&&(decide (m.Frag<(30:Int))))&&(m.Packet.Kind==kind))then((wp m.Packet).bind fun r=>
  some (r==(0:Int)))else some false).bind fun t=>
  some t

def qP(m:rY)(x:Bool):Option Bool:=
  if x then
  (some true)
  else
  (if(m.Kind==(3:Int))then
  (((lY m) (1:Int)).bind fun r1=>
  some r1)
  else
  (if(m.Kind==(4:Int))then
  (((lY m) (2:Int)).bind fun r2=>
  some r2)
  else
  (if(m.Kind==(5:Int))then
  (some ((m.Err==(140:Int))||(m.Err==(300:Int))))
  else
  (some false))))

def Bv(m:rY):Option Bool:=
  if(m.Kind==(1:Int))then
  ((if((decide ((1:Int)<=m.Sites))&&(decide (m.Sites<=(8:Int))))then((pV m.Plan).bind fun r=>
  some r)else some false).bind fun t=>
  some t)
  else
  (if(m.Kind==(2:Int))then
  (qP m (m.Kind==(2:Int)))
  else
  (if(m.Kind==(6:Int))then
  (qP m (m.Kind==(6:Int)))
  else
  (qP m (m.Kind==(7:Int)))))

def C1(m:rY):Option Bool:=
  (s4 m.From).bind fun r=>
  (if r then((s4 m.To).bind fun r1=>
  some r1)else some false).bind fun t=>
  (if((t&&(decide ((1:Int)<=m.Epoch)))&&(decide (m.Epoch<=(12:Int))))then((C0 m).bind fun r2=>
  some r2)else some false).bind fun t1=>
  (if t1 then((Bv m).bind fun r3=>
  some r3)else some false).bind fun t2=>
  some t2

def gz:List Int->bg->Option bg
 |[],ob=>
  some ob
 |e::tl,ob=>
  (app ob.bytes ([(IntKind.u8.wrap e)])).bind fun l2=>
  (gz tl) ({ob with bytes:=l2}:bg)

def cA(w1:bg)(l:(List Int)):Option bg:=
 gz l w1

def kP(w1:bg)(l:(List Int)):Option bg:=
 (cA w1 ([(l.length:Int)])).bind fun r=>
 (cA r l).bind fun r1=>
 some r1

def fZ(w1:bg)(n:tV):Option bg:=
 (cA w1 ([n.Table])).bind fun r=>
 (kP r n.Kinds).bind fun r1=>
 some r1

def mP(w1:bg)(n:Int):Option bg:=
 (cA w1 ([n])).bind fun r=>
 some r

def jo(w1:bg)(is1:Bool):Option bg:=
 if is1 then
 (mP w1 (1:Int))
 else
 (mP w1 (0:Int))

def lg(p:Int)(bytes:Int):Nat->(List Int)->Int->Option (List Int)
  |0,_,_=>none
  |n+1,out1,x=>
    if(decide (x<bytes))then
    ((VI (IntKind.i64.wrap ((IntKind.i64.wrap ((8:Int)*(IntKind.i64.wrap (bytes-x))))-(8:Int)))).bind fun u=>
    (app out1 ([(IntKind.u8.wrap (((IntKind.u64.wrap p)).fdiv (2^(min (Int.toNat (IntKind.i64.wrap ((IntKind.i64.wrap ((8:Int)*(IntKind.i64.wrap (bytes-x))))-(8:Int)))) IntKind.u64.bits))))])).bind fun out2=>
    (lg p bytes n) out2 (IntKind.i64.wrap (x+(1:Int))))
    else
    (some out1)

def sJ(b:(List Int))(p:Int)(bytes:Int):Option (List Int):=
 (xT (0:Int) (IntKind.i64.wrap ((b.length:Int)+bytes)) (0:Int)).bind fun mk=>
 (app mk b).bind fun out=>
 lg p bytes dk out (0:Int)

def rm(b:(List Int))(p:Int):Option (List Int):=
 (sJ b p (2:Int)).bind fun r=>
 some r

def eZ(p:Int)(bytes:Int):Nat->(List Int)->Int->Option (List Int)
  |0,_,_=>none
  |n+1,out1,x=>
    if(decide (x<bytes))then
    ((VI (IntKind.i64.wrap ((IntKind.i64.wrap ((8:Int)*(IntKind.i64.wrap (bytes-x))))-(8:Int)))).bind fun u=>
    (app out1 ([(IntKind.u8.wrap ((p).fdiv (2^(min (Int.toNat (IntKind.i64.wrap ((IntKind.i64.wrap ((8:Int)*(IntKind.i64.wrap (bytes-x))))-(8:Int)))) IntKind.u64.bits))))])).bind fun out2=>
    (eZ p bytes n) out2 (IntKind.i64.wrap (x+(1:Int))))
    else
    (some out1)

def sH(b:(List Int))(p:Int)(bytes:Int):Option (List Int):=
 (xT (0:Int) (IntKind.i64.wrap ((b.length:Int)+bytes)) (0:Int)).bind fun mk=>
 (app mk b).bind fun out=>
 eZ p bytes dk out (0:Int)

def ly(b:(List Int))(p:Int):Option (List Int):=
 (sH b p (8:Int)).bind fun r=>
 some r

def tk(v:aC):Option ((List Int)×Int):=
  (iU v).bind fun r=>
  if(r !=(0:Int))then
  (some ([],r))
  else
  (if(v.Kind==(1:Int))then
  ((app ([(IntKind.u8.wrap v.Kind)]) ([(IntKind.u8.wrap v.N)])).bind fun b=>
  some (b,(0:Int)))
  else
  (if(v.Kind==(2:Int))then
  ((ly ([(IntKind.u8.wrap v.Kind)]) (IntKind.u64.wrap v.N)).bind fun r1=>
  some (r1,(0:Int)))
  else
  (if(v.Kind==(3:Int))then
  ((app ([(IntKind.u8.wrap v.Kind)]) ([(IntKind.u8.wrap (v.S.length:Int))])).bind fun l3=>
  (app l3 (mj v.S)).bind fun b1=>
  some (b1,(0:Int)))
  else
  (if(v.Kind==(4:Int))then
  ((ly ([(IntKind.u8.wrap v.Kind)]) (IntKind.u64.wrap v.N)).bind fun r2=>
  (ly r2 v.U).bind fun r3=>
  some (r3,(0:Int)))
  else
  (some ([(IntKind.u8.wrap v.Kind)],(0:Int)))))))

def eI:List av->bg->Option bg
  |[],ob=>
    some ob
  |e1::tl,ob=>
    (cA ob ([e1.Tag])).bind fun r1=>
    if(e1.Tag==(2:Int))then
    ((cA r1 ([e1.Col])).bind fun r2=>
    (eI tl) r2)
    else
    (if(e1.Tag==(1:Int))then
    ((tk e1.Value).bind fun r3=>
    (app r1.bytes r3.1).bind fun l1=>
    (eI tl) ({r1 with bytes:=l1}:bg))
    else
    ((eI tl) r1))

def jp(w1:bg)(e:aW):Option bg:=
 (rm w1.bytes (IntKind.u16.wrap (e.Nodes.length:Int))).bind fun r=>
 eI e.Nodes ({w1 with bytes:=r}:bg)

def jn(w1:bg)(n:tV):Option bg:=
 (jo w1 n.Left).bind fun r=>
 (jp r n.Cond).bind fun r1=>
 some r1

def im(w1:bg)(n:tV):Option bg:=
 (jp w1 n.Cond).bind fun r=>
 some r

def iz:List fU->bg->Option bg
 |[],ob=>
  some ob
 |e::tl,ob=>
  (cA ob ([e.Tag])).bind fun r2=>
  (jp r2 e.Arg).bind fun r3=>
  (iz tl) r3

def eT(w1:bg)(n:tV):Option bg:=
 (kP w1 n.Keys).bind fun r=>
 (cA r ([(n.Aggs.length:Int)])).bind fun r1=>
 iz n.Aggs r1

def gU:List aW->bg->Option bg
 |[],ob=>
  some ob
 |e::tl,ob=>
  (jp ob e).bind fun r1=>
  (gU tl) r1

def g9(w1:bg)(n:tV):Option bg:=
 (cA w1 ([(n.Items.length:Int)])).bind fun r=>
 gU n.Items r

def ld(p:Int)(bytes:Int):Nat->(List Int)->Int->Option (List Int)
  |0,_,_=>none
  |n+1,out1,x=>
    if(decide (x<bytes))then
    ((VI (IntKind.i64.wrap ((IntKind.i64.wrap ((8:Int)*(IntKind.i64.wrap (bytes-x))))-(8:Int)))).bind fun u=>
    (app out1 ([(IntKind.u8.wrap (((IntKind.u64.wrap p)).fdiv (2^(min (Int.toNat (IntKind.i64.wrap ((IntKind.i64.wrap ((8:Int)*(IntKind.i64.wrap (bytes-x))))-(8:Int)))) IntKind.u64.bits))))])).bind fun out2=>
    (ld p bytes n) out2 (IntKind.i64.wrap (x+(1:Int))))
    else
    (some out1)

def sI(b:(List Int))(p:Int)(bytes:Int):Option (List Int):=
 (xT (0:Int) (IntKind.i64.wrap ((b.length:Int)+bytes)) (0:Int)).bind fun mk=>
 (app mk b).bind fun out=>
 ld p bytes dk out (0:Int)

def pQ(b:(List Int))(p:Int):Option (List Int):=
 (sI b p (4:Int)).bind fun r=>
 some r

def iy(n:tV):List kF->bg->Option bg
 |[],ob=>
  (pQ ob.bytes (IntKind.u32.wrap (IntKind.i64.wrap (n.Limit+(1:Int))))).bind fun r1=>
  some ({ob with bytes:=r1}:bg)
 |e::tl,ob=>
  (cA ob ([e.Col])).bind fun r2=>
  (jo r2 e.Desc).bind fun r3=>
  (iy n tl) r3

def iP(w1:bg)(n:tV):Option bg:=
 (cA w1 ([(n.Order.length:Int)])).bind fun r=>
 iy n n.Order r

def fm(nx:bg->Option bg):List tV->bg->Option bg
  |[],ob1=>
    nx ob1
  |e1::tl1,ob1=>
    (cA ob1 ([e1.Op])).bind fun r4=>
    if((uY (hX (hX (hX (hX (hX (hX (hX (hX (hX ([]:List (Int×(bg->tV->Option (Unit×bg)))) (1:Int) (fun(mc:bg) (mx:tV)=>(fZ mc mx).map fun mr=>((),mr))) (9:Int) (fun(mc:bg) (mx:tV)=>(fZ mc mx).map fun mr=>((),mr))) (2:Int) (fun(mc:bg) (mx:tV)=>(jn mc mx).map fun mr=>((),mr))) (3:Int) (fun(mc:bg) (mx:tV)=>(im mc mx).map fun mr=>((),mr))) (4:Int) (fun(mc:bg) (mx:tV)=>(eT mc mx).map fun mr=>((),mr))) (10:Int) (fun(mc:bg) (mx:tV)=>(eT mc mx).map fun mr=>((),mr))) (11:Int) (fun(mc:bg) (mx:tV)=>(eT mc mx).map fun mr=>((),mr))) (5:Int) (fun(mc:bg) (mx:tV)=>(g9 mc mx).map fun mr=>((),mr))) (8:Int) (fun(mc:bg) (mx:tV)=>(iP mc mx).map fun mr=>((),mr))) e1.Op).isSome)then
    ((((uY (hX (hX (hX (hX (hX (hX (hX (hX (hX ([]:List (Int×(bg->tV->Option (Unit×bg)))) (1:Int) (fun(mc:bg) (mx:tV)=>(fZ mc mx).map fun mr=>((),mr))) (9:Int) (fun(mc:bg) (mx:tV)=>(fZ mc mx).map fun mr=>((),mr))) (2:Int) (fun(mc:bg) (mx:tV)=>(jn mc mx).map fun mr=>((),mr))) (3:Int) (fun(mc:bg) (mx:tV)=>(im mc mx).map fun mr=>((),mr))) (4:Int) (fun(mc:bg) (mx:tV)=>(eT mc mx).map fun mr=>((),mr))) (10:Int) (fun(mc:bg) (mx:tV)=>(eT mc mx).map fun mr=>((),mr))) (11:Int) (fun(mc:bg) (mx:tV)=>(eT mc mx).map fun mr=>((),mr))) (5:Int) (fun(mc:bg) (mx:tV)=>(g9 mc mx).map fun mr=>((),mr))) (8:Int) (fun(mc:bg) (mx:tV)=>(iP mc mx).map fun mr=>((),mr))) e1.Op).getD (fun _ _=>none)) r4 (e1)).bind fun r5=>
    (fm nx tl1) r5.2)
    else
    ((fm nx tl1) r4)

def hD:List dv->bg->Option bg
 |[],ob=>
  some ob
 |e::tl,ob=>
  (cA ob ([e.At,e.Way])).bind fun r1=>
  (kP r1 e.Cols).bind fun r2=>
  (cA r2 ([(e.Nodes.length:Int)])).bind fun r3=>
  fm (hD tl) e.Nodes r3

def kO(w1:bg)(p:eV):Option bg:=
 (cA w1 ([(p.Frags.length:Int)])).bind fun r=>
 hD p.Frags r

def tz:List aC->(List Int)->Option ((List Int)×Int)
  |[],b1=>
    some (b1,(0:Int))
  |e::tl,b1=>
    (tk e).bind fun r=>
    if(r.2 !=(0:Int))then
    (some (([]:List Int),r.2))
    else
    ((app b1 r.1).bind fun b3=>
    (tz tl) b3)

def BO(b:(List Int))(l1:(List aC)):Option ((List Int)×Int):=
 tz l1 b

def Hk(r:(List aC)):Option ((List Int)×Int):=
  if(decide ((16:Int)<(r.length:Int)))then
  (some ([],(3:Int)))
  else
  ((BO ([(IntKind.u8.wrap (r.length:Int))]) r).bind fun r1=>
  some (r1.1,r1.2))

def vU(b:List Int)(at1:Int)(e:Int):Option ((List Int)×Int×Int):=
 if(e !=(0:Int))then
 (some ([],at1,e))
 else
 (some (b,(0:Int),(0:Int)))

def vT:List (List aC)->Nat->(List Int)->Int->Int->Option ((List Int)×Int×Int)
  |[],i,b1,at2,e1=>
    vU b1 at2 e1
  |e2::tl,i,b1,at2,e1=>
    (Hk e2).bind fun r1=>
    if(r1.2 !=(0:Int))then
    (vU b1 (i:Int) r1.2)
    else
    ((app b1 r1.1).bind fun b2=>
    (vT tl) (i+1) b2 at2 r1.2)

def Fj(l:(List (List aC))):Option ((List Int)×Int×Int):=
  if(decide ((400:Int)<(l.length:Int)))then
  (some ([],(0:Int),(3:Int)))
  else
  ((rm ([]) (IntKind.u16.wrap (l.length:Int))).bind fun r=>
  vT l 0 r (0:Int) (0:Int))

def tF(w1:bg)(p:np):Option bg:=
  (pQ w1.bytes p.Session).bind fun r=>
  (ly r p.Seq).bind fun r1=>
  if(p.Kind==(2:Int))then
  ((ly r1 p.Limit).bind fun r2=>
  some ({({w1 with bytes:=r1}:bg)with bytes:=r2}:bg))
  else
  ((jo ({w1 with bytes:=r1}:bg) p.Batch.End).bind fun r3=>
  if p.Batch.End then
  ((ly r3.bytes p.Batch.Count).bind fun r4=>
  some ({r3 with bytes:=r4}:bg))
  else
  ((Fj p.Batch.Rows).bind fun r5=>
  (app r3.bytes r5.1).bind fun l=>
  some ({r3 with bytes:=l}:bg)))

def nG(m:rY)(r:bg)(x:Bool):Option bg:=
  if x then
  ((cA r ([m.Frag])).bind fun r3=>
  (tF r3 m.Packet).bind fun r4=>
  some r4)
  else
  (if(m.Kind==(5:Int))then
  ((jo r (m.Err==(300:Int))).bind fun r5=>
  some r5)
  else
  (some r))

def te(w1:bg)(m:rY):Option bg:=
  (cA w1 ([m.Kind,m.From,m.To,m.Epoch])).bind fun r=>
  if(m.Kind==(1:Int))then
  ((cA r ([m.Sites])).bind fun r1=>
  (kO r1 m.Plan).bind fun r2=>
  some r2)
  else
  (if(m.Kind==(3:Int))then
  (nG m r (m.Kind==(3:Int)))
  else
  (nG m r (m.Kind==(4:Int))))

def Bw(m:rY):Option ((List Int)×Int):=
  (C1 m).bind fun r=>
  if(!r)then
  (some ([],(330:Int)))
  else
  ((te (⟨[]⟩:bg) m).bind fun r1=>
  (D9 r1.bytes).bind fun r2=>
  if(decide ((20000:Int)<(r2.length:Int)))then
  (some ([],(330:Int)))
  else
  (some (r2,(0:Int))))

def tm(a1:(List Int))(b:(List Int)):Option Bool:=
 some ((sf a1)==(sf b))

def yo:Option Bool:=
  (Bw (⟨(2:Int),(2:Int),(0:Int),(3:Int),(0:Int),(0:Int),(⟨[]⟩:eV),(⟨(0:Int),(0:Int),(0:Int),(0:Int),(⟨[],false,(0:Int)⟩:p9)⟩:np),(0:Int)⟩:rY)).bind fun r=>
  (if((r.2==(0:Int))&&((r.1.length:Int)==(8:Int)))then((eX r.1 0 (4:Int)).bind fun y=>
  (tm y ([(2:Int),(2:Int),(0:Int),(3:Int)])).bind fun r1=>
  some r1)else some false).bind fun t=>
  some t

def kN:List av->Option Bool
 |[]=>
  some false
 |e1::tl=>
  if(decide ((100:Int)<(e1.Value.S.length:Int)))then
  (some true)
  else
  ((kN tl))

def lV(e:aW):Option Bool:=
 if(decide ((100:Int)<(e.Nodes.length:Int)))then
 (some true)
 else
 (kN e.Nodes)

def iO(nx:Option Bool):List fU->Option Bool
 |[]=>
  nx
 |e2::tl2=>
  (lV e2.Arg).bind fun r1=>
  if r1 then
  (some true)
  else
  ((iO nx tl2))

def jX(nx:Option Bool)(e:tV):List aW->Option Bool
 |[]=>
  iO nx e.Aggs
 |e1::tl1=>
  (lV e1).bind fun r2=>
  if r2 then
  (some true)
  else
  ((jX nx e tl1))

def fC:List tV->Option Bool
  |[]=>
    some false
  |e::tl=>
    (if(!(((((decide ((20:Int)<(e.Kinds.length:Int)))||(decide ((20:Int)<(e.Keys.length:Int))))||(decide ((20:Int)<(e.Order.length:Int))))||(decide ((20:Int)<(e.Items.length:Int))))||(decide ((20:Int)<(e.Aggs.length:Int)))))then((lV e.Cond).bind fun r=>
    some r)else some true).bind fun t=>
    if t then
    (some true)
    else
    (jX (fC tl) e e.Items)

def ov(l:(List tV)):Option Bool:=
 if(decide ((70:Int)<(l.length:Int)))then
 (some true)
 else
 (fC l)

def kM:List dv->Option Bool
  |[]=>
    some false
  |e::tl=>
    (if(!(decide ((40:Int)<(e.Cols.length:Int))))then((ov e.Nodes).bind fun r=>
    some r)else some true).bind fun t=>
    if t then
    (some true)
    else
    ((kM tl))

def pT(p:eV):Option Bool:=
 if(decide ((40:Int)<(p.Frags.length:Int)))then
 (some true)
 else
 (kM p.Frags)

def pf(b:(List Int)):List Int->Nat->Option Bool
 |[],i=>
  some true
 |e::tl,i=>
  (gB b (i:Int)).bind fun e1=>
  if(e !=e1)then
  (some false)
  else
  ((pf b tl) (i+1))

def nA(a1:(List Int))(b:(List Int)):Option Bool:=
 if((a1.length:Int) !=(b.length:Int))then
 (some false)
 else
 (pf b a1 0)

def qI(b:aW):List av->Nat->Option Bool
 |[],i=>
  some true
 |e::tl,i=>
  (gB b.Nodes (i:Int)).bind fun e1=>
  if(!decide (e=e1))then
  (some false)
  else
  ((qI b tl) (i+1))

def sy(a1:aW)(b:aW):Option Bool:=
 if((a1.Nodes.length:Int) !=(b.Nodes.length:Int))then
 (some false)
 else
 (qI b a1.Nodes 0)

def qi(b:(List aW)):List aW->Nat->Option Bool
 |[],i=>
  some true
 |e::tl,i=>
  (gB b (i:Int)).bind fun e1=>
  (sy e e1).bind fun r=>
  if(!r)then
  (some false)
  else
  ((qi b tl) (i+1))

def sX(a1:(List aW))(b:(List aW)):Option Bool:=
 if((a1.length:Int) !=(b.length:Int))then
 (some false)
 else
 (qi b a1 0)

def kI(a1:tV)(b:tV):Nat->Int->Option Bool
  |0,_=>none
  |n1+1,i1=>
    if(decide (i1<(a1.Order.length:Int)))then
    ((gB a1.Order i1).bind fun e2=>
    (gB b.Order i1).bind fun e3=>
    if(!decide (e2=e3))then
    (some false)
    else
    ((kI a1 b n1) (IntKind.i64.wrap (i1+(1:Int)))))
    else
    ((sy a1.Cond b.Cond).bind fun r3=>
    (if r3 then((sX a1.Items b.Items).bind fun r4=>
    some r4)else some false).bind fun t3=>
    some t3)

def kJ(a1:tV)(b:tV):Nat->Int->Option Bool
  |0,_=>none
  |n+1,i=>
    if(decide (i<(a1.Aggs.length:Int)))then
    ((gB a1.Aggs i).bind fun e=>
    (gB b.Aggs i).bind fun e1=>
    (if(!(e.Tag !=e1.Tag))then((sy e.Arg e1.Arg).bind fun r2=>
    some (!r2))else some true).bind fun t2=>
    if t2 then
    (some false)
    else
    ((kJ a1 b n) (IntKind.i64.wrap (i+(1:Int)))))
    else
    (kI a1 b dk (0:Int))

def rN(a1:tV)(b:tV):Option Bool:=
  if((((((a1.Op !=b.Op)||(a1.A !=b.A))||(a1.B !=b.B))||(a1.Table !=b.Table))||(a1.Left !=b.Left))||(a1.Limit !=b.Limit))then
  (some false)
  else
  ((if(!(((a1.Aggs.length:Int) !=(b.Aggs.length:Int))||((a1.Order.length:Int) !=(b.Order.length:Int))))then((nA a1.Kinds b.Kinds).bind fun r=>
  some (!r))else some true).bind fun t=>
  (if(!t)then((nA a1.Keys b.Keys).bind fun r1=>
  some (!r1))else some true).bind fun t1=>
  if t1 then
  (some false)
  else
  (kJ a1 b dk (0:Int)))

def oI(a1:dZ)(b:dZ):Nat->Int->Option Bool
  |0,_=>none
  |n+1,i=>
    if(decide (i<(a1.Nodes.length:Int)))then
    ((gB a1.Nodes i).bind fun e=>
    (gB b.Nodes i).bind fun e1=>
    (rN e e1).bind fun r=>
    if(!r)then
    (some false)
    else
    ((oI a1 b n) (IntKind.i64.wrap (i+(1:Int)))))
    else
    (some true)

def wW(a1:dZ)(b:dZ):Option Bool:=
 if((a1.Nodes.length:Int) !=(b.Nodes.length:Int))then
 (some false)
 else
 (oI a1 b dk (0:Int))

def qH(b:eV):List dv->Nat->Option Bool
  |[],i=>
    some true
  |e::tl,i=>
    (gB b.Frags (i:Int)).bind fun e1=>
    (if(!((e.At !=e1.At)||(e.Way !=e1.Way)))then((nA e.Cols e1.Cols).bind fun r=>
    some (!r))else some true).bind fun t=>
    (if(!t)then((wW (⟨e.Nodes⟩:dZ) (⟨e1.Nodes⟩:dZ)).bind fun r1=>
    some (!r1))else some true).bind fun t1=>
    if t1 then
    (some false)
    else
    ((qH b tl) (i+1))

def wV(a1:eV)(b:eV):Option Bool:=
 if((a1.Frags.length:Int) !=(b.Frags.length:Int))then
 (some false)
 else
 (qH b a1.Frags 0)

def lC:List Int->(List Int)->Option (List Int)
 |[],out=>
  some out
 |e::tl,out=>
  (app out ([(IntKind.u8.wrap e)])).bind fun out1=>
  (lC tl) out1

def oz(l:(List Int)):Option (List Int):=
 lC l ([(IntKind.u8.wrap (l.length:Int))])

def mz(width:Int):Nat->(List Int)->Int->Int->Option (List Int)
  |0,_,_,_=>none
  |n2+1,out,n1,i=>
    if(decide (i<width))then
    ((app ([(IntKind.u8.wrap ((n1).tmod (256:Int)))]) out).bind fun out1=>
    (mz width n2) out1 (IntKind.u64.wrap ((n1).tdiv (256:Int))) (IntKind.i64.wrap (i+(1:Int))))
    else
    (some out)

def n6(n:Int)(width:Int):Option (List Int):=
 mz width dk ([]:List Int) n (0:Int)

def wP(is1:Bool):Option Int:=
 if is1 then
 (some (1:Int))
 else
 (some (0:Int))

def mB(n:Int):Nat->(List Int)->Int->Option (List Int)
  |0,_,_=>none
  |n1+1,out,i=>
    if(decide ((0:Int)<=i))then
    ((VI (IntKind.i64.wrap ((8:Int)*i))).bind fun u=>
    (app out ([(IntKind.u8.wrap ((n).fdiv (2^(min (Int.toNat (IntKind.i64.wrap ((8:Int)*i))) IntKind.u64.bits))))])).bind fun out1=>
    (mB n n1) out1 (IntKind.i64.wrap (i-(1:Int))))
    else
    (some out)

def n8(n:Int):Option (List Int):=
 mB n dk ([]:List Int) (7:Int)

def vh(v:aC):Option (List Int):=
  if(v.Kind==(1:Int))then
  ((app ([(IntKind.u8.wrap v.Kind)]) ([(IntKind.u8.wrap v.N)])).bind fun out=>
  some out)
  else
  (if(v.Kind==(2:Int))then
  ((n8 (IntKind.u64.wrap v.N)).bind fun r=>
  (app ([(IntKind.u8.wrap v.Kind)]) r).bind fun out1=>
  some out1)
  else
  (if(v.Kind==(3:Int))then
  ((app ([(IntKind.u8.wrap v.Kind)]) ([(IntKind.u8.wrap (v.S.length:Int))])).bind fun l4=>
  (app l4 (mj v.S)).bind fun out2=>
  some out2)
  else
  (if(v.Kind==(4:Int))then
  ((n8 (IntKind.u64.wrap v.N)).bind fun r1=>
  (app ([(IntKind.u8.wrap v.Kind)]) r1).bind fun l6=>
  (n8 v.U).bind fun r2=>
  (app l6 r2).bind fun out3=>
  some out3)
  else
  (some ([(IntKind.u8.wrap v.Kind)])))))

def sV(nx:(List Int)->Int->Option (List Int))(i:Int)(e1:av)(out2:List Int):Option (List Int):=
  if(e1.Tag==(1:Int))then
  ((vh e1.Value).bind fun r1=>
  (app out2 r1).bind fun out3=>
  nx out3 (IntKind.i64.wrap (i+(1:Int))))
  else
  (nx out2 (IntKind.i64.wrap (i+(1:Int))))

def j9(e:aW):Nat->(List Int)->Int->Option (List Int)
  |0,_,_=>none
  |n+1,out,i=>
    if(decide (i<(e.Nodes.length:Int)))then
    ((gB e.Nodes i).bind fun e1=>
    (app out ([(IntKind.u8.wrap e1.Tag)])).bind fun out1=>
    if(e1.Tag==(2:Int))then
    ((app out1 ([(IntKind.u8.wrap e1.Col)])).bind fun out4=>
    sV (j9 e n) i e1 out4)
    else
    (sV (j9 e n) i e1 out1))
    else
    (some out)

def qZ(e:aW):Option (List Int):=
 (n6 (IntKind.u64.wrap (e.Nodes.length:Int)) (2:Int)).bind fun r=>
 j9 e dk r (0:Int)

def oD(n:tV):Nat->(List Int)->Int->Option (List Int)
  |0,_,_=>none
  |n1+1,out7,i=>
    if(decide (i<(n.Aggs.length:Int)))then
    ((gB n.Aggs i).bind fun e=>
    (app out7 ([(IntKind.u8.wrap e.Tag)])).bind fun out8=>
    (qZ e.Arg).bind fun r5=>
    (app out8 r5).bind fun out9=>
    (oD n n1) out9 (IntKind.i64.wrap (i+(1:Int))))
    else
    (some out7)

def oC(n:tV):Nat->(List Int)->Int->Option (List Int)
  |0,_,_=>none
  |n2+1,out11,i1=>
    if(decide (i1<(n.Items.length:Int)))then
    ((gB n.Items i1).bind fun e1=>
    (qZ e1).bind fun r6=>
    (app out11 r6).bind fun out12=>
    (oC n n2) out12 (IntKind.i64.wrap (i1+(1:Int))))
    else
    (some out11)

def oB(n:tV):Nat->(List Int)->Int->Option (List Int)
  |0,_,_=>none
  |n3+1,out14,i2=>
    if(decide (i2<(n.Order.length:Int)))then
    ((gB n.Order i2).bind fun e2=>
    (wP e2.Desc).bind fun r7=>
    (app out14 ([(IntKind.u8.wrap e2.Col),r7])).bind fun out15=>
    (oB n n3) out15 (IntKind.i64.wrap (i2+(1:Int))))
    else
    ((n6 (IntKind.u64.wrap (IntKind.i64.wrap (n.Limit+(1:Int)))) (4:Int)).bind fun r8=>
    (app out14 r8).bind fun out16=>
    some out16)

def m2(n:tV)(x1:Bool):Option (List Int):=
  if x1 then
  ((oz n.Keys).bind fun r4=>
  (app ([(IntKind.u8.wrap n.Op)]) r4).bind fun out5=>
  (app out5 ([(IntKind.u8.wrap (n.Aggs.length:Int))])).bind fun out6=>
  oD n dk out6 (0:Int))
  else
  (if(n.Op==(5:Int))then
  ((app ([(IntKind.u8.wrap n.Op)]) ([(IntKind.u8.wrap (n.Items.length:Int))])).bind fun out10=>
  oC n dk out10 (0:Int))
  else
  (if(n.Op==(8:Int))then
  ((app ([(IntKind.u8.wrap n.Op)]) ([(IntKind.u8.wrap (n.Order.length:Int))])).bind fun out13=>
  oB n dk out13 (0:Int))
  else
  (some ([(IntKind.u8.wrap n.Op)]))))

def oE(n:tV)(x:Bool):Option (List Int):=
  if x then
  ((app ([(IntKind.u8.wrap n.Op)]) ([(IntKind.u8.wrap n.Table)])).bind fun out=>
  (oz n.Kinds).bind fun r=>
  (app out r).bind fun out1=>
  some out1)
  else
  (if(n.Op==(2:Int))then
  ((wP n.Left).bind fun r1=>
  (app ([(IntKind.u8.wrap n.Op)]) ([r1])).bind fun out2=>
  (qZ n.Cond).bind fun r2=>
  (app out2 r2).bind fun out3=>
  some out3)
  else
  (if(n.Op==(3:Int))then
  ((qZ n.Cond).bind fun r3=>
  (app ([(IntKind.u8.wrap n.Op)]) r3).bind fun out4=>
  some out4)
  else
  (if(n.Op==(4:Int))then
  (m2 n (n.Op==(4:Int)))
  else
  (if(n.Op==(10:Int))then
  (m2 n (n.Op==(10:Int)))
  else
  (m2 n (n.Op==(11:Int)))))))

def wS(n:tV):Option (List Int):=
 if(n.Op==(1:Int))then
 (oE n (n.Op==(1:Int)))
 else
 (oE n (n.Op==(9:Int)))

def oA(nx:(List Int)->Int->Option (List Int))(i:Int)(e:dv):Nat->(List Int)->Int->Option (List Int)
  |0,_,_=>none
  |n1+1,out4,k=>
    if(decide (k<(e.Nodes.length:Int)))then
    ((gB e.Nodes k).bind fun e1=>
    (wS e1).bind fun r1=>
    (app out4 r1).bind fun out5=>
    (oA nx i e n1) out5 (IntKind.i64.wrap (k+(1:Int))))
    else
    (nx out4 (IntKind.i64.wrap (i+(1:Int))))

def m1(p:eV):Nat->(List Int)->Int->Option (List Int)
  |0,_,_=>none
  |n+1,out,i=>
    if(decide (i<(p.Frags.length:Int)))then
    ((gB p.Frags i).bind fun e=>
    (app out ([(IntKind.u8.wrap e.At),(IntKind.u8.wrap e.Way)])).bind fun out1=>
    (oz e.Cols).bind fun r=>
    (app out1 r).bind fun out2=>
    (app out2 ([(IntKind.u8.wrap (e.Nodes.length:Int))])).bind fun out3=>
    oA (m1 p n) i e dk out3 (0:Int))
    else
    (some out)

def wQ(p:eV):Option (List Int):=
 m1 p dk ([(IntKind.u8.wrap (p.Frags.length:Int))]) (0:Int)

def jD(v:aC):Option Bool:=
  if(v.Kind==(0:Int))then
  (some (decide (v=(⟨(0:Int),(0:Int),(0:Int),[]⟩:aC))))
  else
  (if(v.Kind==(1:Int))then
  (some (((v.U==(0:Int))&&(v.S==([])))&&((v.N==(0:Int))||(v.N==(1:Int)))))
  else
  (if(v.Kind==(2:Int))then
  (some ((v.U==(0:Int))&&(v.S==([]))))
  else
  (if(v.Kind==(3:Int))then
  (some (((v.N==(0:Int))&&(v.U==(0:Int)))&&(decide ((v.S.length:Int)<=(40:Int)))))
  else
  (some ((v.Kind==(4:Int))&&(v.S==([])))))))

def kq(x1:Bool):Option Int:=
 if x1 then
 (some (1:Int))
 else
 (some (-1:Int))

def pL(op:Int)(x:Bool):Option Int:=
  if x then
  (some (2:Int))
  else
  (if(op==(3:Int))then
  (kq (op==(3:Int)))
  else
  (if(op==(4:Int))then
  (kq (op==(4:Int)))
  else
  (if(op==(5:Int))then
  (kq (op==(5:Int)))
  else
  (if(op==(6:Int))then
  (kq (op==(6:Int)))
  else
  (kq (op==(8:Int)))))))

def rh(op:Int):Option Int:=
  if(op==(1:Int))then
  (some (0:Int))
  else
  (if(op==(2:Int))then
  (pL op (op==(2:Int)))
  else
  (pL op (op==(7:Int))))

def rM(op:Int)(x:Bool):Option Int:=
  if x then
  (some (1:Int))
  else
  ((rh op).bind fun r=>
  some r)

def vd(op:Int):Option Int:=
  if(op==(9:Int))then
  (some (0:Int))
  else
  (if(op==(10:Int))then
  (rM op (op==(10:Int)))
  else
  (rM op (op==(11:Int))))

def gH:Nat->(List tV)->Int->Option Int
  |0,_,_=>none
  |fu+1,l,at1=>
    if((decide (at1<(0:Int)))||(decide ((l.length:Int)<=at1)))then
    (some (0:Int))
    else
    ((gB l at1).bind fun e=>
    (vd e.Op).bind fun r=>
    if(r==(0:Int))then
    (if((e.A==(-1:Int))&&(e.B==(-1:Int)))then
    (some (1:Int))
    else
    (some (0:Int)))
    else
    (if(r==(1:Int))then
    (((gH fu) l (IntKind.i64.wrap (at1-(1:Int)))).bind fun r1=>
    if(((e.A==(IntKind.i64.wrap (at1-(1:Int))))&&(e.B==(-1:Int)))&&(decide ((0:Int)<r1)))then
    (some (IntKind.i64.wrap (r1+(1:Int))))
    else
    (some (0:Int)))
    else
    (if(r==(2:Int))then
    (((gH fu) l (IntKind.i64.wrap (at1-(1:Int)))).bind fun r2=>
    if(((r2==(0:Int))||(e.B !=(IntKind.i64.wrap (at1-(1:Int)))))||(e.A !=(IntKind.i64.wrap ((IntKind.i64.wrap (at1-(1:Int)))-r2))))then
    (some (0:Int))
    else
    (((gH fu) l e.A).bind fun r3=>
    if(decide ((0:Int)<r3))then
    (some (IntKind.i64.wrap ((IntKind.i64.wrap (r3+r2))+(1:Int))))
    else
    (some (0:Int))))
    else
    (some (0:Int)))))

def ux(l:(List tV))(at1:Int):Option Int:=
 gH dk l at1

def oJ(n:tV):Option Bool:=
  if((n.Op !=(1:Int))&&((n.Table !=(0:Int))||(decide ((0:Int)<(n.Kinds.length:Int)))))then
  (some false)
  else
  (if(((n.Op !=(2:Int))&&n.Left)||(((n.Op !=(2:Int))&&(n.Op !=(3:Int)))&&(decide ((0:Int)<(n.Cond.Nodes.length:Int)))))then
  (some false)
  else
  (if(((n.Op !=(4:Int))&&((decide ((0:Int)<(n.Keys.length:Int)))||(decide ((0:Int)<(n.Aggs.length:Int)))))||((n.Op !=(5:Int))&&(decide ((0:Int)<(n.Items.length:Int)))))then
  (some false)
  else
  (some ((n.Op==(8:Int))||(((n.Order.length:Int)==(0:Int))&&(n.Limit==(0:Int)))))))

def n7(n:tV)(x:Bool):Option Bool:=
  if x then
  ((oJ (tV.mk (4:Int) n.A n.B n.Table n.Kinds n.Left n.Cond n.Keys n.Aggs n.Items n.Order n.Limit)).bind fun r1=>
  some r1)
  else
  ((oJ n).bind fun r2=>
  some r2)

def oH(n:tV):Option Bool:=
  if(n.Op==(9:Int))then
  ((oJ (tV.mk (1:Int) n.A n.B n.Table n.Kinds n.Left n.Cond n.Keys n.Aggs n.Items n.Order n.Limit)).bind fun r=>
  some r)
  else
  (if(n.Op==(10:Int))then
  (n7 n (n.Op==(10:Int)))
  else
  (n7 n (n.Op==(11:Int))))

def ny(n:tV):List Int->Bool->Option ((List Int)×Bool)
 |[],ok=>
  some (n.Kinds,ok)
 |e::tl,ok=>
  (ny n tl) ((ok&&(decide ((0:Int)<=e)))&&(decide (e<=(4:Int))))

def vc(n:tV):Option ((List Int)×Bool):=
 ny n n.Kinds ((((decide ((0:Int)<=n.Table))&&(decide (n.Table<(30:Int))))&&(decide ((1:Int)<=(n.Kinds.length:Int))))&&(decide ((n.Kinds.length:Int)<=(16:Int))))

def sW:List Int->Option Bool
 |[]=>
  some false
 |e::tl=>
  if(e==(4:Int))then
  (some true)
  else
  ((sW tl))

def wU(kinds:(List Int)):Option Bool:=
 sW kinds

def vI(nx1:aW->Option aW)(out1:aW)(n1:av):Option aW:=
 (app out1.Nodes ([n1])).bind fun l5=>
 nx1 ({out1 with Nodes:=l5}:aW)

def vJ(out:aW)(nx1:aW->Option aW)(out1:aW)(n:av):Option aW:=
 if(decide ((0:Int)<=n.R))then
 (vI nx1 out1 (av.mk n.Tag n.L (IntKind.i64.wrap (n.R+(out.Nodes.length:Int))) n.Col n.Value))
 else
 (vI nx1 out1 n)

def oK(nx:Nat->av->aW->Option aW)(i:Nat)(root1:av)(out:aW):List av->aW->Option aW
 |[],out1=>
  if((i:Int)==(0:Int))then
  (nx (i+1) (av.mk root1.Tag (IntKind.i64.wrap ((out1.Nodes.length:Int)-(1:Int))) root1.R root1.Col root1.Value) out1)
  else
  (nx (i+1) (av.mk root1.Tag root1.L (IntKind.i64.wrap ((out1.Nodes.length:Int)-(1:Int))) root1.Col root1.Value) out1)
 |e1::tl1,out1=>
  if(decide ((0:Int)<=e1.L))then
  (vJ out (oK nx i root1 out tl1) out1 (av.mk e1.Tag (IntKind.i64.wrap (e1.L+(out.Nodes.length:Int))) e1.R e1.Col e1.Value))
  else
  (vJ out (oK nx i root1 out tl1) out1 e1)

def m4:List aW->Nat->av->aW->Option aW
 |[],i,root1,out=>
  (app out.Nodes ([root1])).bind fun l2=>
  some ({out with Nodes:=l2}:aW)
 |e::tl,i,root1,out=>
  oK (m4 tl) i root1 out e.Nodes out

def wY(root:av)(l:(List aW)):Option aW:=
 m4 l 0 (av.mk root.Tag (-1:Int) (-1:Int) root.Col root.Value) ({(⟨[]⟩:aW)with Nodes:=([]:List av)}:aW)

def d9:Nat->dZ->Int->Option Int
  |0,_,_=>none
  |fu+1,l,at1=>
    if((decide (at1<(0:Int)))||(decide ((l.Nodes.length:Int)<=at1)))then
    (some (0:Int))
    else
    ((gB l.Nodes at1).bind fun e=>
    (rh e.Op).bind fun r=>
    if(r==(0:Int))then
    (if((e.A==(-1:Int))&&(e.B==(-1:Int)))then
    (some (1:Int))
    else
    (some (0:Int)))
    else
    (if(r==(1:Int))then
    (if((e.A==(IntKind.i64.wrap (at1-(1:Int))))&&(e.B==(-1:Int)))then
    (((d9 fu) l e.A).bind fun r1=>
    if(decide ((0:Int)<r1))then
    (some (IntKind.i64.wrap (r1+(1:Int))))
    else
    (some (0:Int)))
    else
    (some (0:Int)))
    else
    (if(r==(2:Int))then
    (if(e.B==(IntKind.i64.wrap (at1-(1:Int))))then
    (((d9 fu) l e.B).bind fun r2=>
    if((decide ((0:Int)<r2))&&(e.A==(IntKind.i64.wrap (e.B-r2))))then
    (((d9 fu) l e.A).bind fun r3=>
    if(decide ((0:Int)<r3))then
    (some (IntKind.i64.wrap ((IntKind.i64.wrap (r3+r2))+(1:Int))))
    else
    (some (0:Int)))
    else
    (some (0:Int)))
    else
    (some (0:Int)))
    else
    (some (0:Int)))))

def Af(l:dZ)(at1:Int):Option Int:=
 d9 dk l at1

def ye(tag:Int):Option Int:=
  if((decide (tag<(1:Int)))||(decide ((23:Int)<tag)))then
  (some (-1:Int))
  else
  (if(decide (tag<=(3:Int)))then
  (some (0:Int))
  else
  (if(decide (tag<=(11:Int)))then
  (some (1:Int))
  else
  (some (2:Int))))

def vf(tag:Int):Option Int:=
  if((tag==(3:Int))||((decide ((8:Int)<=tag))&&(decide (tag<=(11:Int)))))then
  (some (-1:Int))
  else
  ((ye tag).bind fun r=>
  some r)

def vi(v:aC):Option Bool:=
 (jD v).bind fun r=>
 some (r&&(v.Kind !=(4:Int)))

def ka(n:av):Option Bool:=
  if(n.Tag==(1:Int))then
  ((vi n.Value).bind fun r=>
  some (r&&(n.Col==(0:Int))))
  else
  (if(n.Tag==(2:Int))then
  (some (((decide (n.Value=(⟨(0:Int),(0:Int),(0:Int),[]⟩:aC)))&&(decide ((0:Int)<=n.Col)))&&(decide (n.Col<(16:Int)))))
  else
  (some ((decide (n.Value=(⟨(0:Int),(0:Int),(0:Int),[]⟩:aC)))&&(n.Col==(0:Int)))))

def jj:Nat->aW->Int->Option Int
  |0,_,_=>none
  |fu+1,e,place=>
    if((decide (place<(0:Int)))||(decide ((e.Nodes.length:Int)<=place)))then
    (some (0:Int))
    else
    ((gB e.Nodes place).bind fun e1=>
    (vf e1.Tag).bind fun r=>
    (if(!(decide (r<(0:Int))))then((ka e1).bind fun r1=>
    some (!r1))else some true).bind fun t=>
    if t then
    (some (0:Int))
    else
    (if(r==(0:Int))then
    (if((e1.L !=(-1:Int))||(e1.R !=(-1:Int)))then
    (some (0:Int))
    else
    (some (1:Int)))
    else
    (((jj fu) e (IntKind.i64.wrap (place-(1:Int)))).bind fun r2=>
    if(r2==(0:Int))then
    (some (0:Int))
    else
    (if(r==(1:Int))then
    (if((e1.L !=(IntKind.i64.wrap (place-(1:Int))))||(e1.R !=(-1:Int)))then
    (some (0:Int))
    else
    (some (IntKind.i64.wrap (r2+(1:Int)))))
    else
    (((jj fu) e (IntKind.i64.wrap ((IntKind.i64.wrap (place-(1:Int)))-r2))).bind fun r3=>
    if(((r3==(0:Int))||(e1.R !=(IntKind.i64.wrap (place-(1:Int)))))||(e1.L !=(IntKind.i64.wrap ((IntKind.i64.wrap (place-(1:Int)))-r2))))then
    (some (0:Int))
    else
    (some (IntKind.i64.wrap ((IntKind.i64.wrap (r3+r2))+(1:Int)))))))))

def Ah(e:aW)(place:Int):Option Int:=
 jj dk e place

def ve(e:aW):Option Bool:=
  (if((decide ((1:Int)<=(e.Nodes.length:Int)))&&(decide ((e.Nodes.length:Int)<=(1000:Int))))then((Ah e (IntKind.i64.wrap ((e.Nodes.length:Int)-(1:Int)))).bind fun r=>
  some (r==(e.Nodes.length:Int)))else some false).bind fun t=>
  some t

def q0(k:Int)(want:Int):Option Bool:=
 some ((k==want)||(k==(0:Int)))

def sx(tag:Int)(l:Int)(r:Int):Option (Int×Bool):=
  if((tag==(4:Int))||((decide ((12:Int)<=tag))&&(decide (tag<=(15:Int)))))then
  ((q0 l (2:Int)).bind fun r1=>
  (if r1 then((q0 r (2:Int)).bind fun r2=>
  some r2)else some false).bind fun t=>
  some ((2:Int),t))
  else
  (if((tag==(5:Int))||(decide ((22:Int)<=tag)))then
  ((q0 l (1:Int)).bind fun r3=>
  (if r3 then((q0 r (1:Int)).bind fun r4=>
  some r4)else some false).bind fun t1=>
  some ((1:Int),t1))
  else
  (if((tag==(6:Int))||(tag==(7:Int)))then
  (some ((1:Int),true))
  else
  (some ((1:Int),(((l==r)||(l==(0:Int)))||(r==(0:Int)))))))

def qK(nx2:(List Int)->Option (Int×Int))(e3:av)(own:List Int)(e6:Int)(r1:Int):Option (Int×Int):=
  (sx e3.Tag e6 r1).bind fun r2=>
  if(!r2.2)then
  (some ((0:Int),(201:Int)))
  else
  ((app own ([r2.1])).bind fun own3=>
  nx2 own3)

def dI(kinds:(List Int)):List av->(List Int)->Option (Int×Int)
  |[],own=>
    (gB own (IntKind.i64.wrap ((own.length:Int)-(1:Int)))).bind fun e4=>
    some (e4,(0:Int))
  |e3::tl2,own=>
    if(e3.Tag==(1:Int))then
    ((app own ([e3.Value.Kind])).bind fun own1=>
    (dI kinds tl2) own1)
    else
    (if(e3.Tag==(2:Int))then
    ((gB kinds e3.Col).bind fun e5=>
    (app own ([e5])).bind fun own2=>
    (dI kinds tl2) own2)
    else
    ((gB own e3.L).bind fun e6=>
    if(decide ((0:Int)<=e3.R))then
    ((gB own e3.R).bind fun e7=>
    qK (dI kinds tl2) e3 own e6 e7)
    else
    (qK (dI kinds tl2) e3 own e6 (0:Int))))

def oL(e:aW)(kinds:(List Int)):List av->Option (Int×Int)
 |[]=>
  dI kinds e.Nodes ([]:List Int)
 |e2::tl1=>
  if((e2.Tag==(2:Int))&&(decide ((kinds.length:Int)<=e2.Col)))then
  (some ((0:Int),(2:Int)))
  else
  ((oL e kinds tl1))

def qJ(e:aW)(kinds:(List Int)):List Int->Option (Int×Int)
 |[]=>
  oL e kinds e.Nodes
 |e1::tl=>
  if((decide (e1<(0:Int)))||(decide ((3:Int)<e1)))then
  (some ((0:Int),(2:Int)))
  else
  ((qJ e kinds tl))

def sC(e:aW)(kinds:(List Int)):Option (Int×Int):=
 (ve e).bind fun r=>
 if(!r)then
 (some ((0:Int),(200:Int)))
 else
 (qJ e kinds kinds)

def s8(e:aW)(kinds:(List Int)):Option Bool:=
 (sC e kinds).bind fun r=>
 some ((r.2==(0:Int))&&((r.1==(0:Int))||(r.1==(1:Int))))

def mA(a1:fU)(kinds:(List Int)):Option (Int×Bool):=
  if(a1.Tag==(1:Int))then
  (some ((2:Int),((a1.Arg.Nodes.length:Int)==(0:Int))))
  else
  ((sC a1.Arg kinds).bind fun r=>
  if(((decide (a1.Tag<(1:Int)))||(decide ((5:Int)<a1.Tag)))||(r.2 !=(0:Int)))then
  (some ((0:Int),false))
  else
  (if(((a1.Tag==(3:Int))&&(r.1 !=(2:Int)))&&(r.1 !=(0:Int)))then
  (some ((0:Int),false))
  else
  (if(decide ((4:Int)<=a1.Tag))then
  (some (r.1,true))
  else
  (some ((2:Int),true)))))

def ji(n:tV):Nat->Bool->Int->Option ((List Int)×Bool)
  |0,_,_=>none
  |n1+1,ok,i=>
    if(decide (i<(n.Kinds.length:Int)))then
    ((if ok then((gB n.Kinds i).bind fun e=>
    some (decide ((1:Int)<=e)))else some false).bind fun t=>
    (if t then((gB n.Kinds i).bind fun e1=>
    some (decide (e1<=(3:Int))))else some false).bind fun t1=>
    (ji n n1) t1 (IntKind.i64.wrap (i+(1:Int))))
    else
    (some (n.Kinds,((((ok&&(decide ((0:Int)<=n.Table)))&&(decide (n.Table<=(3:Int))))&&(decide ((1:Int)<=(n.Kinds.length:Int))))&&(decide ((n.Kinds.length:Int)<=(4:Int))))))

def lR(n:tV)(a1:(List Int)):Nat->(List Int)->Bool->Int->Option ((List Int)×Bool)
  |0,_,_,_=>none
  |n3+1,out3,ok1,i2=>
    if(decide (i2<(n.Aggs.length:Int)))then
    ((gB n.Aggs i2).bind fun e4=>
    (mA e4 a1).bind fun r2=>
    (app out3 ([r2.1])).bind fun out4=>
    (lR n a1 n3) out4 (ok1&&r2.2) (IntKind.i64.wrap (i2+(1:Int))))
    else
    (some (out3,(((ok1&&(decide ((n.Keys.length:Int)<=(3:Int))))&&(decide ((n.Aggs.length:Int)<=(12:Int))))&&(decide ((0:Int)<(out3.length:Int))))))

def lS(n:tV)(a1:(List Int)):Nat->(List Int)->Int->Option ((List Int)×Bool)
  |0,_,_=>none
  |n2+1,out1,i1=>
    if(decide (i1<(n.Keys.length:Int)))then
    ((gB n.Keys i1).bind fun e2=>
    if((decide (e2<(0:Int)))||(decide ((a1.length:Int)<=e2)))then
    (some ([],false))
    else
    ((gB a1 e2).bind fun e3=>
    (app out1 ([e3])).bind fun out2=>
    (lS n a1 n2) out2 (IntKind.i64.wrap (i1+(1:Int)))))
    else
    (lR n a1 dk out1 true (0:Int))

def lQ(n:tV)(a1:(List Int)):Nat->(List Int)->Bool->Int->Option ((List Int)×Bool)
  |0,_,_,_=>none
  |n4+1,out5,ok2,i3=>
    if(decide (i3<(n.Items.length:Int)))then
    ((gB n.Items i3).bind fun e5=>
    (sC e5 a1).bind fun r3=>
    (app out5 ([r3.1])).bind fun out6=>
    (lQ n a1 n4) out6 (ok2&&(r3.2==(0:Int))) (IntKind.i64.wrap (i3+(1:Int))))
    else
    (some (out5,((ok2&&(decide ((1:Int)<=(out5.length:Int))))&&(decide ((out5.length:Int)<=(16:Int))))))

def pK(b:(List Int))(nx4:Nat->(List Int)->Bool->Option ((List Int)×Bool))(i4:Nat)(out7:List Int)(ok3:Bool)(k:Int):Option ((List Int)×Bool):=
  (app out7 ([k])).bind fun out8=>
  (if ok3 then((gB b (i4:Int)).bind fun e7=>
  (if(!(e7==k))then((gB b (i4:Int)).bind fun e8=>
  some (e8==(0:Int)))else some true).bind fun t3=>
  some t3)else some false).bind fun t2=>
  nx4 (i4+1) out8 t2

def jh(b:(List Int)):List Int->Nat->(List Int)->Bool->Option ((List Int)×Bool)
  |[],i4,out7,ok3=>
    some (out7,ok3)
  |e6::tl,i4,out7,ok3=>
    if(e6==(0:Int))then
    ((gB b (i4:Int)).bind fun e9=>
    pK b (jh b tl) i4 out7 ok3 e9)
    else
    (pK b (jh b tl) i4 out7 ok3 e6)

def jg(n:tV)(a1:(List Int)):Nat->Bool->Int->Option ((List Int)×Bool)
  |0,_,_=>none
  |n5+1,ok4,i5=>
    if(decide (i5<(n.Order.length:Int)))then
    ((if ok4 then((gB n.Order i5).bind fun e10=>
    some (decide ((0:Int)<=e10.Col)))else some false).bind fun t4=>
    (if t4 then((gB n.Order i5).bind fun e11=>
    some (decide (e11.Col<(a1.length:Int))))else some false).bind fun t5=>
    (jg n a1 n5) t5 (IntKind.i64.wrap (i5+(1:Int))))
    else
    (some (a1,(((ok4&&(decide ((n.Order.length:Int)<=(3:Int))))&&(decide ((-1:Int)<=n.Limit)))&&(decide (n.Limit<=(2147483647:Int))))))

def cK(n:tV)(a1:(List Int))(b:(List Int)):Option ((List Int)×Bool):=
  if(n.Op==(1:Int))then
  (ji n dk true (0:Int))
  else
  (if(n.Op==(2:Int))then
  ((app ([]:List Int) a1).bind fun l=>
  (app l b).bind fun out=>
  (s8 n.Cond out).bind fun r=>
  some (out,r))
  else
  (if(n.Op==(3:Int))then
  ((s8 n.Cond a1).bind fun r1=>
  some (a1,r1))
  else
  (if(n.Op==(4:Int))then
  (lS n a1 dk ([]:List Int) (0:Int))
  else
  (if(n.Op==(5:Int))then
  (lQ n a1 dk ([]:List Int) true (0:Int))
  else
  (if(n.Op==(6:Int))then
  (some (a1,true))
  else
  (if(n.Op==(7:Int))then
  (if((a1.length:Int) !=(b.length:Int))then
  (some ([],false))
  else
  (jh b a1 0 ([]:List Int) true))
  else
  (jg n a1 dk true (0:Int))))))))

def ku(l:dZ)(at1:Int)(e1:tV)(a1:(List Int))(b1:(List Int)):Option ((List Int)×Bool):=
 (cK e1 a1 b1).bind fun r2=>
 if(((e1.Op==(8:Int))&&(at1 !=(IntKind.i64.wrap ((l.Nodes.length:Int)-(1:Int)))))||(decide ((16:Int)<(r2.1.length:Int))))then
 (some ([],false))
 else
 (some (r2.1,r2.2))

def lT(self__:dZ->Int->Option ((List Int)×Bool))(l:dZ)(at1:Int)(e1:tV)(a1:(List Int)):Option ((List Int)×Bool):=
  if(decide ((0:Int)<=e1.B))then
  ((self__ l e1.B).bind fun r3=>
  if(!r3.2)then
  (some ([],false))
  else
  (ku l at1 e1 a1 r3.1))
  else
  (ku l at1 e1 a1 ([]))

def gr:Nat->dZ->Int->Option ((List Int)×Bool)
  |0,_,_=>none
  |fu+1,l,at1=>
    (Af l at1).bind fun r=>
    (if(!(r==(0:Int)))then((gB l.Nodes at1).bind fun e=>
    (oJ e).bind fun r1=>
    some (!r1))else some true).bind fun t=>
    if t then
    (some ([],false))
    else
    ((gB l.Nodes at1).bind fun e1=>
    if(decide ((0:Int)<=e1.A))then
    (((gr fu) l e1.A).bind fun r4=>
    if(!r4.2)then
    (some ([],false))
    else
    (lT (gr fu) l at1 e1 r4.1))
    else
    (lT (gr fu) l at1 e1 ([])))

def nT(l:dZ)(at1:Int):Option ((List Int)×Bool):=
 gr dk l at1

def mN(nx1:tV->Option ((List Int)×Bool))(p:tV)(e2:av):Option ((List Int)×Bool):=
 (wY e2 ([])).bind fun r2=>
 (app p.Items ([r2])).bind fun l7=>
 nx1 ({p with Items:=l7}:tV)

def dQ(nx:Nat->tV->dZ->Option ((List Int)×Bool))(i:Nat)(n1:tV)(l:dZ):List Int->tV->Option ((List Int)×Bool)
 |[],p=>
  (app l.Nodes ([(⟨(1:Int),(-1:Int),(-1:Int),(0:Int),[(1:Int),(2:Int),(3:Int)],false,(⟨[]⟩:aW),[],[],[],[],(0:Int)⟩:tV),p])).bind fun l5=>
  if((i:Int)==(0:Int))then
  (nx (i+1) (tV.mk n1.Op (IntKind.i64.wrap ((l5.length:Int)-(1:Int))) n1.B n1.Table n1.Kinds n1.Left n1.Cond n1.Keys n1.Aggs n1.Items n1.Order n1.Limit) ({l with Nodes:=l5}:dZ))
  else
  (nx (i+1) (tV.mk n1.Op n1.A (IntKind.i64.wrap ((l5.length:Int)-(1:Int))) n1.Table n1.Kinds n1.Left n1.Cond n1.Keys n1.Aggs n1.Items n1.Order n1.Limit) ({l with Nodes:=l5}:dZ))
 |e1::tl1,p=>
  if(decide ((0:Int)<e1))then
  (mN (dQ nx i n1 l tl1) p (⟨(2:Int),(0:Int),(0:Int),(IntKind.i64.wrap (e1-(1:Int))),(⟨(0:Int),(0:Int),(0:Int),[]⟩:aC)⟩:av))
  else
  (mN (dQ nx i n1 l tl1) p (⟨(1:Int),(0:Int),(0:Int),(0:Int),(⟨(0:Int),(0:Int),(0:Int),[]⟩:aC)⟩:av))

def cb:List (List Int)->Nat->tV->dZ->Option ((List Int)×Bool)
 |[],i,n1,l=>
  (app l.Nodes ([n1])).bind fun l2=>
  (nT ({l with Nodes:=l2}:dZ) (IntKind.i64.wrap ((l2.length:Int)-(1:Int)))).bind fun r=>
  some (r.1,r.2)
 |e::tl,i,n1,l=>
  (wU e).bind fun r1=>
  if r1 then
  (some ([],false))
  else
  (dQ (cb tl) i n1 l e ({(⟨(5:Int),(l.Nodes.length:Int),(-1:Int),(0:Int),[],false,(⟨[]⟩:aW),[],[],[],[],(0:Int)⟩:tV)with Items:=([]:List aW)}:tV))

def dO(n:tV)(parts:(List (List Int))):Option ((List Int)×Bool):=
 cb parts 0 n ({(⟨[]⟩:dZ)with Nodes:=([]:List tV)}:dZ)

def lD(n:tV):List fU->Nat->(List Int)->Option (List Int)
  |[],i,out1=>
    some out1
  |e::tl,i,out1=>
    if(e.Tag==(3:Int))then
    ((gB out1 (IntKind.i64.wrap ((n.Keys.length:Int)+(i:Int)))).bind fun e1=>
    (some (out1.set (IntKind.i64.wrap ((n.Keys.length:Int)+(i:Int))).toNat (4:Int))).bind fun st=>
    (lD n tl) (i+1) st)
    else
    ((lD n tl) (i+1) out1)

def oG(n:tV)(kinds:(List Int)):Option (List Int):=
 (app ([]:List Int) kinds).bind fun out=>
 lD n n.Aggs 0 out

def pF(nx1:Nat->(List Int)->Option ((List Int)×Bool))(i1:Nat)(out1:List Int)(e2:Int)(x1:Bool):Option ((List Int)×Bool):=
  if x1 then
  (if(e2==(4:Int))then
  (some ([],false))
  else
  ((app out1 ([e2])).bind fun out4=>
  nx1 (i1+1) out4))
  else
  (some ([],false))

def pG(nx1:Nat->(List Int)->Option ((List Int)×Bool))(i1:Nat)(e1:fU)(out1:List Int)(e2:Int)(x:Bool):Option ((List Int)×Bool):=
  if x then
  (if(e2 !=(2:Int))then
  (some ([],false))
  else
  ((app out1 ([e2])).bind fun out2=>
  nx1 (i1+1) out2))
  else
  (if(e1.Tag==(3:Int))then
  (if(e2 !=(4:Int))then
  (some ([],false))
  else
  ((app out1 ([(2:Int)])).bind fun out3=>
  nx1 (i1+1) out3))
  else
  (if(e1.Tag==(4:Int))then
  (pF nx1 i1 out1 e2 (e1.Tag==(4:Int)))
  else
  (pF nx1 i1 out1 e2 (e1.Tag==(5:Int)))))

def fQ(n:tV)(a1:(List Int)):List fU->Nat->(List Int)->Option ((List Int)×Bool)
  |[],i1,out1=>
    some (out1,true)
  |e1::tl1,i1,out1=>
    (gB a1 (IntKind.i64.wrap ((n.Keys.length:Int)+(i1:Int)))).bind fun e2=>
    if(decide ((0:Int)<(e1.Arg.Nodes.length:Int)))then
    (some ([],false))
    else
    (if(e1.Tag==(1:Int))then
    (pG (fQ n a1 tl1) i1 e1 out1 e2 (e1.Tag==(1:Int)))
    else
    (pG (fQ n a1 tl1) i1 e1 out1 e2 (e1.Tag==(2:Int))))

def nz(n:tV)(a1:(List Int)):List Int->Nat->(List Int)->Option ((List Int)×Bool)
  |[],i,out=>
    fQ n a1 n.Aggs 0 out
  |e::tl,i,out=>
    (if(!(e !=(i:Int)))then((gB a1 (i:Int)).bind fun e3=>
    some (e3==(4:Int)))else some true).bind fun t=>
    if t then
    (some ([],false))
    else
    ((gB a1 (i:Int)).bind fun e4=>
    (app out ([e4])).bind fun out5=>
    (nz n a1 tl) (i+1) out5)

def pH(n:tV)(a1:(List Int)):Option ((List Int)×Bool):=
 if((((decide ((3:Int)<(n.Keys.length:Int)))||(decide ((12:Int)<(n.Aggs.length:Int))))||((IntKind.i64.wrap ((n.Keys.length:Int)+(n.Aggs.length:Int))) !=(a1.length:Int)))||((a1.length:Int)==(0:Int)))then
 (some ([],false))
 else
 (nz n a1 n.Keys 0 ([]:List Int))

def dr(l:(List tV))(nx:Nat->(List (List Int))->Option ((List (List Int))×Int))(i:Nat)(e:tV)(out:List (List Int))(ok:Bool)(k:(List Int)):Option ((List (List Int))×Int):=
  if((!ok)||(((e.Op==(8:Int))||(e.Op==(10:Int)))&&((i:Int) !=(IntKind.i64.wrap ((l.length:Int)-(1:Int))))))then
  (some ([],(i:Int)))
  else
  ((app out ([k])).bind fun out1=>
  nx (i+1) out1)

def eC(l:(List tV))(nx:Nat->(List (List Int))->Option ((List (List Int))×Int))(i:Nat)(e:tV)(out:List (List Int))(parts1:List (List Int)):Option ((List (List Int))×Int):=
  if(e.Op==(9:Int))then
  ((vc e).bind fun r3=>
  dr l nx i e out r3.2 r3.1)
  else
  (if(e.Op==(10:Int))then
  ((dO (tV.mk (4:Int) e.A e.B e.Table e.Kinds e.Left e.Cond e.Keys e.Aggs e.Items e.Order e.Limit) parts1).bind fun r4=>
  if r4.2 then
  ((oG e r4.1).bind fun r5=>
  dr l nx i e out r4.2 r5)
  else
  (dr l nx i e out r4.2 r4.1))
  else
  (if(e.Op==(11:Int))then
  ((gB parts1 (0:Int)).bind fun e1=>
  (pH e e1).bind fun r6=>
  (if r6.2 then((gB l e.A).bind fun e2=>
  some (e2.Op==(9:Int)))else some false).bind fun t1=>
  dr l nx i e out t1 r6.1)
  else
  (if(e.Op==(1:Int))then
  ((dO e ([])).bind fun r7=>
  dr l nx i e out r7.2 r7.1)
  else
  ((dO e parts1).bind fun r8=>
  dr l nx i e out r8.2 r8.1))))

def pI(l:(List tV))(nx:Nat->(List (List Int))->Option ((List (List Int))×Int))(i:Nat)(e:tV)(out:List (List Int))(parts:List (List Int)):Option ((List (List Int))×Int):=
  if(decide ((0:Int)<=e.B))then
  ((gB out e.B).bind fun e3=>
  (app parts ([e3])).bind fun parts2=>
  eC l nx i e out parts2)
  else
  (eC l nx i e out parts)

def cT(l:(List tV)):List tV->Nat->(List (List Int))->Option ((List (List Int))×Int)
  |[],i,out=>
    (ux l (IntKind.i64.wrap ((l.length:Int)-(1:Int)))).bind fun r=>
    if(r !=(l.length:Int))then
    (some ([],(IntKind.i64.wrap ((l.length:Int)-(1:Int)))))
    else
    (some (out,(-1:Int)))
  |e::tl,i,out=>
    (ux l (i:Int)).bind fun r1=>
    (if(decide ((0:Int)<r1))then((oH e).bind fun r2=>
    some r2)else some false).bind fun t=>
    if t then
    (if(decide ((0:Int)<=e.A))then
    ((gB out e.A).bind fun e4=>
    (app ([]:List (List Int)) ([e4])).bind fun parts3=>
    pI l (cT l tl) i e out parts3)
    else
    (pI l (cT l tl) i e out ([]:List (List Int))))
    else
    (dr l (cT l tl) i e out t ([]))

def pJ(l:(List tV)):Option ((List (List Int))×Int):=
 if((decide ((l.length:Int)<(1:Int)))||(decide ((60:Int)<(l.length:Int))))then
 (some ([],(0:Int)))
 else
 (cT l l 0 ([]:List (List Int)))

def oF(nx:Int->Option Bool)(i:Int)(e:dv):Nat->Int->Option Bool
  |0,_=>none
  |n1+1,k=>
    if(decide (k<(e.Cols.length:Int)))then
    ((gB e.Cols k).bind fun e1=>
    if((decide (e1<(0:Int)))||(decide ((15:Int)<e1)))then
    (some false)
    else
    ((oF nx i e n1) (IntKind.i64.wrap (k+(1:Int)))))
    else
    ((pJ e.Nodes).bind fun r=>
    if(decide ((0:Int)<=r.2))then
    (some false)
    else
    (nx (IntKind.i64.wrap (i+(1:Int)))))

def m3(p:eV):Nat->Int->Option Bool
  |0,_=>none
  |n+1,i=>
    if(decide (i<(p.Frags.length:Int)))then
    ((gB p.Frags i).bind fun e=>
    if(((((e.At !=(1:Int))&&(e.At !=(2:Int)))||(decide (e.Way<(1:Int))))||(decide ((4:Int)<e.Way)))||(decide ((16:Int)<(e.Cols.length:Int))))then
    (some false)
    else
    (oF (m3 p n) i e dk (0:Int)))
    else
    (some true)

def wT(p:eV):Option Bool:=
 if((decide ((p.Frags.length:Int)<(1:Int)))||(decide ((30:Int)<(p.Frags.length:Int))))then
 (some false)
 else
 (m3 p dk (0:Int))

def sK(p:eV):Option ((List Int)×Int):=
  (pV p).bind fun r=>
  if(!r)then
  (some ([],(290:Int)))
  else
  ((kO (⟨[]⟩:bg) p).bind fun r1=>
  some (r1.bytes,(0:Int)))

def uB(b:(List Int)):Option an:=
 (wG (b.length:Int) (0:Int)).bind fun mk=>
 (some (qx mk b)).bind fun cp=>
 some ({(⟨(⟨(0:Int),(0:Int)⟩:na),mk⟩:an)with own:=cp}:an)

def w7(b:(List Int)):Option (be×an):=
 (uB b).bind fun r=>
 some ((⟨(⟨(⟨(0:Int),(0:Int)⟩:na),[]⟩:an),b,false⟩:be),r)

def sk(x:Int)(c:Int):Option Int:=
 some (IntKind.u64.wrap ((IntKind.u64.wrap (x*2^(min (Int.toNat (8:Int)) IntKind.u64.bits)))+(IntKind.u64.wrap c)))

def iu(r:an):Option Int:=
 if false then
 (some (0:Int))
 else
 (some (IntKind.i64.wrap ((r.own.length:Int)-r.place.at_)))

def gw(n:Int):Nat->Int->Int->an->Option (an×Int)
  |0,_,_,_=>none
  |n1+1,x1,x2,ob=>
    if(decide (x1<n))then
    ((gB ob.own ob.place.at_).bind fun e=>
    (sk x2 e).bind fun r2=>
    (gw n n1) (IntKind.i64.wrap (x1+(1:Int))) r2 ({ob with place:=({ob.place with at_:=(IntKind.i64.wrap (ob.place.at_+(1:Int)))}:na)}:an))
    else
    (some (ob,x2))

def o9(r:an)(n:Int)(x:Int):Option (an×Int):=
  if(r.place.why !=(0:Int))then
  (some (r,x))
  else
  (if(decide (n<(0:Int)))then
  (some (({r with place:=({r.place with why:=(2:Int)}:na)}:an),x))
  else
  ((iu r).bind fun r1=>
  if(decide (r1<n))then
  (some (({r with place:=({r.place with why:=(7:Int)}:na)}:an),x))
  else
  (gw n dk (0:Int) x r)))

def cL(r:an)(n:Int):Option (Int×an):=
 (o9 r n (0:Int)).bind fun r1=>
 some (r1.2,r1.1)

def cY(r:an):Option (Int×an):=
 (cL r (1:Int)).bind fun r1=>
 some ((IntKind.u8.wrap r1.1),r1.2)

def bS(r:be)(in1:an):Option (Int×an):=
 (cY in1).bind fun r1=>
 some ((IntKind.i64.wrap r1.1),r1.2)

def iX(r:an):Option Int:=
 if false then
 (some (1:Int))
 else
 (some r.place.why)

def d8(r:be)(in1:an):Option Bool:=
  if(!r.bad)then
  ((iX in1).bind fun r1=>
  some (r1==(0:Int)))
  else
  (some false)

def pU(out:List Int)(ob:an):Option ((List Int)×an):=
 some (out,ob)

def iZ(r:be)(n:Int):Nat->(List Int)->Int->an->Option ((List Int)×an)
  |0,_,_,_=>none
  |n1+1,out1,x,ob1=>
    if(decide (x<n))then
    ((d8 r ob1).bind fun r1=>
    if(!r1)then
    (pU out1 ob1)
    else
    ((bS r ob1).bind fun r2=>
    (app out1 ([r2.1])).bind fun out2=>
    (iZ r n n1) out2 (IntKind.i64.wrap (x+(1:Int))) r2.2))
    else
    (pU out1 ob1)

def mR(r:be)(in1:an)(n:Int):Option ((List Int)×an):=
 iZ r n dk ([]:List Int) (0:Int) in1

def iY(r:be)(in1:an):Option ((List Int)×an):=
 (bS r in1).bind fun r1=>
 (mR r r1.2 r1.1).bind fun r2=>
 some (r2.1,r2.2)

def kR(r:be)(in1:an):Option (Bool×be×an):=
 (cY in1).bind fun r1=>
 some ((r1.1==(1:Int)),({r with bad:=(r.bad||(decide ((1:Int)<r1.1)))}:be),r1.2)

def ql(r:an):Option (Int×an):=
 (cL r (4:Int)).bind fun r1=>
 some ((IntKind.u32.wrap r1.1),r1.2)

def lE(r:an):Option (Int×an):=
 (cL r (2:Int)).bind fun r1=>
 some ((IntKind.u16.wrap r1.1),r1.2)

def ox(t:(List Int)):Option (Int×(List Int)):=
  if((t.length:Int)==(0:Int))then
  (some ((-1:Int),t))
  else
  ((gB t (IntKind.i64.wrap ((t.length:Int)-(1:Int)))).bind fun e=>
  (eX t 0 (IntKind.i64.wrap ((t.length:Int)-(1:Int)))).bind fun y=>
  some (e,y))

def jQ(at1:Int)(b3:Int)(a1:Int)(x1:List Int)(ob1:be):Option (Int×Int×be×(List Int)):=
 (app x1 ([at1])).bind fun l3=>
 some (a1,b3,ob1,l3)

def mh(n:Int)(at1:Int)(b3:Int)(x:List Int)(ob:be):Option (Int×Int×be×(List Int)):=
  if(decide ((1:Int)<=n))then
  ((ox x).bind fun r1=>
  jQ at1 b3 r1.1 r1.2 ({ob with bad:=(ob.bad||(decide (r1.1<(0:Int))))}:be))
  else
  (jQ at1 b3 (-1:Int) x ob)

def cU(r:be)(in1:an)(t:(List Int))(n:Int)(at1:Int):Option (Int×Int×be×(List Int)):=
  if(n==(2:Int))then
  ((ox t).bind fun r2=>
  mh n at1 r2.1 r2.2 ({r with bad:=(r.bad||(decide (r2.1<(0:Int))))}:be))
  else
  (mh n at1 (-1:Int) t r)

def pm(r:be)(in1:an):Option (List Int):=
 (iu in1).bind fun r1=>
 (eX r.all (IntKind.i64.wrap ((r.all.length:Int)-r1)) (r.all.length:Int)).bind fun y=>
 some y

def q5(out:(List Int))(c:Int):Option (List Int):=
 (app out ([c])).bind fun l1=>
 some l1

def gv(n:Int):Nat->Int->(List Int)->an->Option (an×(List Int))
  |0,_,_,_=>none
  |n1+1,x,x1,ob=>
    if(decide (x<n))then
    ((gB ob.own ob.place.at_).bind fun e=>
    (q5 x1 e).bind fun r2=>
    (gv n n1) (IntKind.i64.wrap (x+(1:Int))) r2 ({ob with place:=({ob.place with at_:=(IntKind.i64.wrap (ob.place.at_+(1:Int)))}:na)}:an))
    else
    (some (ob,x1))

def o8(r:an)(n:Int)(out:(List Int)):Option (an×(List Int)):=
  if(r.place.why !=(0:Int))then
  (some (r,out))
  else
  (if(decide (n<(0:Int)))then
  (some (({r with place:=({r.place with why:=(2:Int)}:na)}:an),out))
  else
  ((iu r).bind fun r1=>
  if(decide (r1<n))then
  (some (({r with place:=({r.place with why:=(7:Int)}:na)}:an),out))
  else
  (gv n dk (0:Int) out r)))

def jW(r:an)(n:Int):Option ((List Int)×an):=
 (o8 r n ([]:List Int)).bind fun r1=>
 some (r1.2,r1.1)

def kQ(r:be)(in1:an)(n:Int)(e:Int):Option (be×an):=
  if(e !=(0:Int))then
  (some (({r with bad:=true}:be),in1))
  else
  ((jW in1 n).bind fun r1=>
  some (r,r1.2))

def xg(b:(List Int)):Option (ea×an):=
 (uB b).bind fun r=>
 some ((⟨(⟨(⟨(0:Int),(0:Int)⟩:na),[]⟩:an),(b.length:Int),false⟩:ea),r)

def ia(r:an):Option (Int×an):=
 (cL r (8:Int)).bind fun r1=>
 some (r1.1,r1.2)

def dx(t:ea)(in1:an)(is1:Bool):Option ea:=
  if t.bad then
  (some ({t with bad:=true}:ea))
  else
  ((iX in1).bind fun r=>
  some ({t with bad:=((r==(0:Int))&&(!is1))}:ea))

def hT(t:ea)(in1:an):Option Bool:=
  if(!t.bad)then
  ((iX in1).bind fun r=>
  some (r==(0:Int)))
  else
  (some false)

def mU(t:ea)(in1:an):Option (aC×ea×an):=
  (cY in1).bind fun r=>
  (dx t r.2 (decide ((IntKind.i64.wrap r.1)<=(4:Int)))).bind fun r1=>
  (hT r1 r.2).bind fun r2=>
  if(!r2)then
  (some ((aC.mk (IntKind.i64.wrap r.1) (⟨(0:Int),(0:Int),(0:Int),[]⟩:aC).N (⟨(0:Int),(0:Int),(0:Int),[]⟩:aC).U (⟨(0:Int),(0:Int),(0:Int),[]⟩:aC).S),r1,r.2))
  else
  (if((IntKind.i64.wrap r.1)==(1:Int))then
  ((cY r.2).bind fun r3=>
  (iU (aC.mk (IntKind.i64.wrap r.1) (IntKind.i64.wrap r3.1) (⟨(0:Int),(0:Int),(0:Int),[]⟩:aC).U (⟨(0:Int),(0:Int),(0:Int),[]⟩:aC).S)).bind fun r4=>
  (dx r1 r3.2 (r4==(0:Int))).bind fun r5=>
  some ((aC.mk (IntKind.i64.wrap r.1) (IntKind.i64.wrap r3.1) (⟨(0:Int),(0:Int),(0:Int),[]⟩:aC).U (⟨(0:Int),(0:Int),(0:Int),[]⟩:aC).S),r5,r3.2))
  else
  (if((IntKind.i64.wrap r.1)==(2:Int))then
  ((ia r.2).bind fun r6=>
  (iU (aC.mk (IntKind.i64.wrap r.1) (IntKind.i64.wrap r6.1) (⟨(0:Int),(0:Int),(0:Int),[]⟩:aC).U (⟨(0:Int),(0:Int),(0:Int),[]⟩:aC).S)).bind fun r7=>
  (dx r1 r6.2 (r7==(0:Int))).bind fun r8=>
  some ((aC.mk (IntKind.i64.wrap r.1) (IntKind.i64.wrap r6.1) (⟨(0:Int),(0:Int),(0:Int),[]⟩:aC).U (⟨(0:Int),(0:Int),(0:Int),[]⟩:aC).S),r8,r6.2))
  else
  (if((IntKind.i64.wrap r.1)==(3:Int))then
  ((cY r.2).bind fun r9=>
  (dx r1 r9.2 (decide ((IntKind.i64.wrap r9.1)<=(40:Int)))).bind fun r10=>
  (hT r10 r9.2).bind fun r11=>
  if r11 then
  ((jW r9.2 (IntKind.i64.wrap r9.1)).bind fun r12=>
  (iU (aC.mk (IntKind.i64.wrap r.1) (⟨(0:Int),(0:Int),(0:Int),[]⟩:aC).N (⟨(0:Int),(0:Int),(0:Int),[]⟩:aC).U (sf r12.1))).bind fun r13=>
  (dx r10 r12.2 (r13==(0:Int))).bind fun r14=>
  some ((aC.mk (IntKind.i64.wrap r.1) (⟨(0:Int),(0:Int),(0:Int),[]⟩:aC).N (⟨(0:Int),(0:Int),(0:Int),[]⟩:aC).U (sf r12.1)),r14,r12.2))
  else
  ((iU (aC.mk (IntKind.i64.wrap r.1) (⟨(0:Int),(0:Int),(0:Int),[]⟩:aC).N (⟨(0:Int),(0:Int),(0:Int),[]⟩:aC).U (⟨(0:Int),(0:Int),(0:Int),[]⟩:aC).S)).bind fun r15=>
  (dx r10 r9.2 (r15==(0:Int))).bind fun r16=>
  some ((aC.mk (IntKind.i64.wrap r.1) (⟨(0:Int),(0:Int),(0:Int),[]⟩:aC).N (⟨(0:Int),(0:Int),(0:Int),[]⟩:aC).U (⟨(0:Int),(0:Int),(0:Int),[]⟩:aC).S),r16,r9.2)))
  else
  (if((IntKind.i64.wrap r.1)==(4:Int))then
  ((ia r.2).bind fun r17=>
  (ia r17.2).bind fun r18=>
  (iU (aC.mk (IntKind.i64.wrap r.1) (IntKind.i64.wrap r17.1) r18.1 (⟨(0:Int),(0:Int),(0:Int),[]⟩:aC).S)).bind fun r19=>
  (dx r1 r18.2 (r19==(0:Int))).bind fun r20=>
  some ((aC.mk (IntKind.i64.wrap r.1) (IntKind.i64.wrap r17.1) r18.1 (⟨(0:Int),(0:Int),(0:Int),[]⟩:aC).S),r20,r18.2))
  else
  ((iU (aC.mk (IntKind.i64.wrap r.1) (⟨(0:Int),(0:Int),(0:Int),[]⟩:aC).N (⟨(0:Int),(0:Int),(0:Int),[]⟩:aC).U (⟨(0:Int),(0:Int),(0:Int),[]⟩:aC).S)).bind fun r21=>
  (dx r1 r.2 (r21==(0:Int))).bind fun r22=>
  some ((aC.mk (IntKind.i64.wrap r.1) (⟨(0:Int),(0:Int),(0:Int),[]⟩:aC).N (⟨(0:Int),(0:Int),(0:Int),[]⟩:aC).U (⟨(0:Int),(0:Int),(0:Int),[]⟩:aC).S),r22,r.2))))))

def mi(t:ea)(in1:an)(p:aC):Option (aC×Int×Int):=
  if t.bad then
  (some ((⟨(0:Int),(0:Int),(0:Int),[]⟩:aC),(0:Int),(160:Int)))
  else
  ((iX in1).bind fun r=>
  if(r !=(0:Int))then
  ((iX in1).bind fun r1=>
  some ((⟨(0:Int),(0:Int),(0:Int),[]⟩:aC),(0:Int),r1))
  else
  ((iu in1).bind fun r2=>
  some (p,(IntKind.i64.wrap (t.all-r2)),(0:Int))))

def qU(b:(List Int)):Option (aC×Int×Int):=
 (xg b).bind fun r=>
 (mU r.1 r.2).bind fun r1=>
 (mi r1.2.1 r1.2.2 r1.1).bind fun r2=>
 some (r2.1,r2.2.1,r2.2.2)

def jY(r:be)(in1:an):Option (aC×be×an):=
 (pm r in1).bind fun r1=>
 (qU r1).bind fun r2=>
 (kQ r in1 r2.2.1 r2.2.2).bind fun r3=>
 some (r2.1,r3.1,r3.2)

def rp(tag:Int):Option Int:=
  if((tag==(1:Int))||(tag==(2:Int)))then
  (some (0:Int))
  else
  (if(decide ((12:Int)<=tag))then
  (some (2:Int))
  else
  (some (1:Int)))

def nk(r:be)(in1:an)(t:(List Int))(at1:Int):Option (av×be×an×(List Int)×Int):=
  (bS r in1).bind fun r1=>
  if(((⟨r1.1,(0:Int),(0:Int),(0:Int),(⟨(0:Int),(0:Int),(0:Int),[]⟩:aC)⟩:av).Tag)==(2:Int))then
  ((bS r r1.2).bind fun r2=>
  (rp ((⟨r1.1,(0:Int),(0:Int),(0:Int),(⟨(0:Int),(0:Int),(0:Int),[]⟩:aC)⟩:av).Tag)).bind fun r3=>
  (cU r r2.2 t r3 at1).bind fun r4=>
  some ((av.mk ({(av.mk (⟨r1.1,(0:Int),(0:Int),(0:Int),(⟨(0:Int),(0:Int),(0:Int),[]⟩:aC)⟩:av).Tag (⟨r1.1,(0:Int),(0:Int),(0:Int),(⟨(0:Int),(0:Int),(0:Int),[]⟩:aC)⟩:av).L (⟨r1.1,(0:Int),(0:Int),(0:Int),(⟨(0:Int),(0:Int),(0:Int),[]⟩:aC)⟩:av).R r2.1 (⟨r1.1,(0:Int),(0:Int),(0:Int),(⟨(0:Int),(0:Int),(0:Int),[]⟩:aC)⟩:av).Value)with L:=r4.1}:av).Tag ({(av.mk (⟨r1.1,(0:Int),(0:Int),(0:Int),(⟨(0:Int),(0:Int),(0:Int),[]⟩:aC)⟩:av).Tag (⟨r1.1,(0:Int),(0:Int),(0:Int),(⟨(0:Int),(0:Int),(0:Int),[]⟩:aC)⟩:av).L (⟨r1.1,(0:Int),(0:Int),(0:Int),(⟨(0:Int),(0:Int),(0:Int),[]⟩:aC)⟩:av).R r2.1 (⟨r1.1,(0:Int),(0:Int),(0:Int),(⟨(0:Int),(0:Int),(0:Int),[]⟩:aC)⟩:av).Value)with L:=r4.1}:av).L r4.2.1 ({(av.mk (⟨r1.1,(0:Int),(0:Int),(0:Int),(⟨(0:Int),(0:Int),(0:Int),[]⟩:aC)⟩:av).Tag (⟨r1.1,(0:Int),(0:Int),(0:Int),(⟨(0:Int),(0:Int),(0:Int),[]⟩:aC)⟩:av).L (⟨r1.1,(0:Int),(0:Int),(0:Int),(⟨(0:Int),(0:Int),(0:Int),[]⟩:aC)⟩:av).R r2.1 (⟨r1.1,(0:Int),(0:Int),(0:Int),(⟨(0:Int),(0:Int),(0:Int),[]⟩:aC)⟩:av).Value)with L:=r4.1}:av).Col ({(av.mk (⟨r1.1,(0:Int),(0:Int),(0:Int),(⟨(0:Int),(0:Int),(0:Int),[]⟩:aC)⟩:av).Tag (⟨r1.1,(0:Int),(0:Int),(0:Int),(⟨(0:Int),(0:Int),(0:Int),[]⟩:aC)⟩:av).L (⟨r1.1,(0:Int),(0:Int),(0:Int),(⟨(0:Int),(0:Int),(0:Int),[]⟩:aC)⟩:av).R r2.1 (⟨r1.1,(0:Int),(0:Int),(0:Int),(⟨(0:Int),(0:Int),(0:Int),[]⟩:aC)⟩:av).Value)with L:=r4.1}:av).Value),r4.2.2.1,r2.2,r4.2.2.2,(IntKind.i64.wrap (at1+(1:Int)))))
  else
  (if(((⟨r1.1,(0:Int),(0:Int),(0:Int),(⟨(0:Int),(0:Int),(0:Int),[]⟩:aC)⟩:av).Tag)==(1:Int))then
  ((jY r r1.2).bind fun r5=>
  (rp ((⟨r1.1,(0:Int),(0:Int),(0:Int),(⟨(0:Int),(0:Int),(0:Int),[]⟩:aC)⟩:av).Tag)).bind fun r6=>
  (cU r5.2.1 r5.2.2 t r6 at1).bind fun r7=>
  some ((av.mk ({(av.mk (⟨r1.1,(0:Int),(0:Int),(0:Int),(⟨(0:Int),(0:Int),(0:Int),[]⟩:aC)⟩:av).Tag (⟨r1.1,(0:Int),(0:Int),(0:Int),(⟨(0:Int),(0:Int),(0:Int),[]⟩:aC)⟩:av).L (⟨r1.1,(0:Int),(0:Int),(0:Int),(⟨(0:Int),(0:Int),(0:Int),[]⟩:aC)⟩:av).R (⟨r1.1,(0:Int),(0:Int),(0:Int),(⟨(0:Int),(0:Int),(0:Int),[]⟩:aC)⟩:av).Col r5.1)with L:=r7.1}:av).Tag ({(av.mk (⟨r1.1,(0:Int),(0:Int),(0:Int),(⟨(0:Int),(0:Int),(0:Int),[]⟩:aC)⟩:av).Tag (⟨r1.1,(0:Int),(0:Int),(0:Int),(⟨(0:Int),(0:Int),(0:Int),[]⟩:aC)⟩:av).L (⟨r1.1,(0:Int),(0:Int),(0:Int),(⟨(0:Int),(0:Int),(0:Int),[]⟩:aC)⟩:av).R (⟨r1.1,(0:Int),(0:Int),(0:Int),(⟨(0:Int),(0:Int),(0:Int),[]⟩:aC)⟩:av).Col r5.1)with L:=r7.1}:av).L r7.2.1 ({(av.mk (⟨r1.1,(0:Int),(0:Int),(0:Int),(⟨(0:Int),(0:Int),(0:Int),[]⟩:aC)⟩:av).Tag (⟨r1.1,(0:Int),(0:Int),(0:Int),(⟨(0:Int),(0:Int),(0:Int),[]⟩:aC)⟩:av).L (⟨r1.1,(0:Int),(0:Int),(0:Int),(⟨(0:Int),(0:Int),(0:Int),[]⟩:aC)⟩:av).R (⟨r1.1,(0:Int),(0:Int),(0:Int),(⟨(0:Int),(0:Int),(0:Int),[]⟩:aC)⟩:av).Col r5.1)with L:=r7.1}:av).Col ({(av.mk (⟨r1.1,(0:Int),(0:Int),(0:Int),(⟨(0:Int),(0:Int),(0:Int),[]⟩:aC)⟩:av).Tag (⟨r1.1,(0:Int),(0:Int),(0:Int),(⟨(0:Int),(0:Int),(0:Int),[]⟩:aC)⟩:av).L (⟨r1.1,(0:Int),(0:Int),(0:Int),(⟨(0:Int),(0:Int),(0:Int),[]⟩:aC)⟩:av).R (⟨r1.1,(0:Int),(0:Int),(0:Int),(⟨(0:Int),(0:Int),(0:Int),[]⟩:aC)⟩:av).Col r5.1)with L:=r7.1}:av).Value),r7.2.2.1,r5.2.2,r7.2.2.2,(IntKind.i64.wrap (at1+(1:Int)))))
  else
  ((rp ((⟨r1.1,(0:Int),(0:Int),(0:Int),(⟨(0:Int),(0:Int),(0:Int),[]⟩:aC)⟩:av).Tag)).bind fun r8=>
  (cU r r1.2 t r8 at1).bind fun r9=>
  some ((av.mk ({(⟨r1.1,(0:Int),(0:Int),(0:Int),(⟨(0:Int),(0:Int),(0:Int),[]⟩:aC)⟩:av)with L:=r9.1}:av).Tag ({(⟨r1.1,(0:Int),(0:Int),(0:Int),(⟨(0:Int),(0:Int),(0:Int),[]⟩:aC)⟩:av)with L:=r9.1}:av).L r9.2.1 ({(⟨r1.1,(0:Int),(0:Int),(0:Int),(⟨(0:Int),(0:Int),(0:Int),[]⟩:aC)⟩:av)with L:=r9.1}:av).Col ({(⟨r1.1,(0:Int),(0:Int),(0:Int),(⟨(0:Int),(0:Int),(0:Int),[]⟩:aC)⟩:av)with L:=r9.1}:av).Value),r9.2.2.1,r1.2,r9.2.2.2,(IntKind.i64.wrap (at1+(1:Int))))))

def lq(out:List av)(x:Int)(x1:List Int)(ob:be)(ob1:an):Option ((List av)×be×an×(List Int)×Int):=
 some (out,ob,ob1,x1,x)

def gL(n:Int):Nat->(List av)->Int->Int->(List Int)->be->an->Option ((List av)×be×an×(List Int)×Int)
  |0,_,_,_,_,_,_=>none
  |n1+1,out1,x2,x3,x4,ob2,ob3=>
    if(decide (x2<n))then
    ((d8 ob2 ob3).bind fun r1=>
    if(!r1)then
    (lq out1 x3 x4 ob2 ob3)
    else
    ((nk ob2 ob3 x4 x3).bind fun r2=>
    (app out1 ([r2.1])).bind fun out2=>
    (gL n n1) out2 (IntKind.i64.wrap (x2+(1:Int))) r2.2.2.2.2 r2.2.2.2.1 r2.2.1 r2.2.2.1))
    else
    (lq out1 x3 x4 ob2 ob3)

def kg(r:be)(in1:an)(n:Int)(t:(List Int))(at1:Int):Option ((List av)×be×an×(List Int)×Int):=
 gL n dk ([]:List av) (0:Int) at1 t r in1

def gJ(r:be)(in1:an):Option (aW×be×an):=
 (lE in1).bind fun r1=>
 (kg r r1.2 (IntKind.i64.wrap r1.1) ([]:List Int) (0:Int)).bind fun r2=>
 some ((⟨r2.1⟩:aW),r2.2.1,r2.2.2.1)

def qq(r:be)(in1:an):Option (fU×be×an):=
 (bS r in1).bind fun r1=>
 (gJ r r1.2).bind fun r2=>
 some ((⟨r1.1,r2.1⟩:fU),r2.2.1,r2.2.2)

def qp(r:be)(in1:an):Option (kF×be×an):=
 (bS r in1).bind fun r1=>
 (kR r r1.2).bind fun r2=>
 some ((⟨r1.1,r2.1⟩:kF),r2.2.1,r2.2.2)

def mw(out:List fU)(ob:be)(ob1:an):Option ((List fU)×be×an):=
 some (out,ob,ob1)

def jN(n:Int):Nat->(List fU)->Int->be->an->Option ((List fU)×be×an)
  |0,_,_,_,_=>none
  |n1+1,out1,x,ob2,ob3=>
    if(decide (x<n))then
    ((d8 ob2 ob3).bind fun r1=>
    if(!r1)then
    (mw out1 ob2 ob3)
    else
    ((qq ob2 ob3).bind fun r2=>
    (app out1 ([r2.1])).bind fun out2=>
    (jN n n1) out2 (IntKind.i64.wrap (x+(1:Int))) r2.2.1 r2.2.2))
    else
    (mw out1 ob2 ob3)

def lr(r:be)(in1:an)(n:Int):Option ((List fU)×be×an):=
 jN n dk ([]:List fU) (0:Int) r in1

def lX(out:List aW)(ob:be)(ob1:an):Option ((List aW)×be×an):=
 some (out,ob,ob1)

def jr(n:Int):Nat->(List aW)->Int->be->an->Option ((List aW)×be×an)
  |0,_,_,_,_=>none
  |n1+1,out1,x,ob2,ob3=>
    if(decide (x<n))then
    ((d8 ob2 ob3).bind fun r1=>
    if(!r1)then
    (lX out1 ob2 ob3)
    else
    ((gJ ob2 ob3).bind fun r2=>
    (app out1 ([r2.1])).bind fun out2=>
    (jr n n1) out2 (IntKind.i64.wrap (x+(1:Int))) r2.2.1 r2.2.2))
    else
    (lX out1 ob2 ob3)

def kS(r:be)(in1:an)(n:Int):Option ((List aW)×be×an):=
 jr n dk ([]:List aW) (0:Int) r in1

def mv(out:List kF)(ob:be)(ob1:an):Option ((List kF)×be×an):=
 some (out,ob,ob1)

def jM(n:Int):Nat->(List kF)->Int->be->an->Option ((List kF)×be×an)
  |0,_,_,_,_=>none
  |n1+1,out1,x,ob2,ob3=>
    if(decide (x<n))then
    ((d8 ob2 ob3).bind fun r1=>
    if(!r1)then
    (mv out1 ob2 ob3)
    else
    ((qp ob2 ob3).bind fun r2=>
    (app out1 ([r2.1])).bind fun out2=>
    (jM n n1) out2 (IntKind.i64.wrap (x+(1:Int))) r2.2.1 r2.2.2))
    else
    (mv out1 ob2 ob3)

def ln(r:be)(in1:an)(n:Int):Option ((List kF)×be×an):=
 jM n dk ([]:List kF) (0:Int) r in1

def ky(r:be)(t:(List Int))(at1:Int)(r1:Int×an)(x1:Bool):Option (tV×be×an×(List Int)):=
  if x1 then
  ((iY r r1.2).bind fun r10=>
  (bS r r10.2).bind fun r11=>
  (lr r r11.2 r11.1).bind fun r12=>
  (cU r12.2.1 r12.2.2 t (1:Int) at1).bind fun r13=>
  some ((tV.mk (⟨r1.1,(0:Int),(0:Int),(0:Int),[],false,(⟨[]⟩:aW),[],[],[],[],(0:Int)⟩:tV).Op r13.1 r13.2.1 (⟨r1.1,(0:Int),(0:Int),(0:Int),[],false,(⟨[]⟩:aW),[],[],[],[],(0:Int)⟩:tV).Table (⟨r1.1,(0:Int),(0:Int),(0:Int),[],false,(⟨[]⟩:aW),[],[],[],[],(0:Int)⟩:tV).Kinds (⟨r1.1,(0:Int),(0:Int),(0:Int),[],false,(⟨[]⟩:aW),[],[],[],[],(0:Int)⟩:tV).Left (⟨r1.1,(0:Int),(0:Int),(0:Int),[],false,(⟨[]⟩:aW),[],[],[],[],(0:Int)⟩:tV).Cond r10.1 r12.1 (⟨r1.1,(0:Int),(0:Int),(0:Int),[],false,(⟨[]⟩:aW),[],[],[],[],(0:Int)⟩:tV).Items (⟨r1.1,(0:Int),(0:Int),(0:Int),[],false,(⟨[]⟩:aW),[],[],[],[],(0:Int)⟩:tV).Order (⟨r1.1,(0:Int),(0:Int),(0:Int),[],false,(⟨[]⟩:aW),[],[],[],[],(0:Int)⟩:tV).Limit),r13.2.2.1,r12.2.2,r13.2.2.2))
  else
  (if(((⟨r1.1,(0:Int),(0:Int),(0:Int),[],false,(⟨[]⟩:aW),[],[],[],[],(0:Int)⟩:tV).Op)==(5:Int))then
  ((bS r r1.2).bind fun r14=>
  (kS r r14.2 r14.1).bind fun r15=>
  (cU r15.2.1 r15.2.2 t (1:Int) at1).bind fun r16=>
  some ((tV.mk (⟨r1.1,(0:Int),(0:Int),(0:Int),[],false,(⟨[]⟩:aW),[],[],[],[],(0:Int)⟩:tV).Op r16.1 r16.2.1 (⟨r1.1,(0:Int),(0:Int),(0:Int),[],false,(⟨[]⟩:aW),[],[],[],[],(0:Int)⟩:tV).Table (⟨r1.1,(0:Int),(0:Int),(0:Int),[],false,(⟨[]⟩:aW),[],[],[],[],(0:Int)⟩:tV).Kinds (⟨r1.1,(0:Int),(0:Int),(0:Int),[],false,(⟨[]⟩:aW),[],[],[],[],(0:Int)⟩:tV).Left (⟨r1.1,(0:Int),(0:Int),(0:Int),[],false,(⟨[]⟩:aW),[],[],[],[],(0:Int)⟩:tV).Cond (⟨r1.1,(0:Int),(0:Int),(0:Int),[],false,(⟨[]⟩:aW),[],[],[],[],(0:Int)⟩:tV).Keys (⟨r1.1,(0:Int),(0:Int),(0:Int),[],false,(⟨[]⟩:aW),[],[],[],[],(0:Int)⟩:tV).Aggs r15.1 (⟨r1.1,(0:Int),(0:Int),(0:Int),[],false,(⟨[]⟩:aW),[],[],[],[],(0:Int)⟩:tV).Order (⟨r1.1,(0:Int),(0:Int),(0:Int),[],false,(⟨[]⟩:aW),[],[],[],[],(0:Int)⟩:tV).Limit),r16.2.2.1,r15.2.2,r16.2.2.2))
  else
  (if(((⟨r1.1,(0:Int),(0:Int),(0:Int),[],false,(⟨[]⟩:aW),[],[],[],[],(0:Int)⟩:tV).Op)==(8:Int))then
  ((bS r r1.2).bind fun r17=>
  (ln r r17.2 r17.1).bind fun r18=>
  (ql r18.2.2).bind fun r19=>
  (cU r18.2.1 r19.2 t (1:Int) at1).bind fun r20=>
  some ((tV.mk (⟨r1.1,(0:Int),(0:Int),(0:Int),[],false,(⟨[]⟩:aW),[],[],[],[],(0:Int)⟩:tV).Op r20.1 r20.2.1 (⟨r1.1,(0:Int),(0:Int),(0:Int),[],false,(⟨[]⟩:aW),[],[],[],[],(0:Int)⟩:tV).Table (⟨r1.1,(0:Int),(0:Int),(0:Int),[],false,(⟨[]⟩:aW),[],[],[],[],(0:Int)⟩:tV).Kinds (⟨r1.1,(0:Int),(0:Int),(0:Int),[],false,(⟨[]⟩:aW),[],[],[],[],(0:Int)⟩:tV).Left (⟨r1.1,(0:Int),(0:Int),(0:Int),[],false,(⟨[]⟩:aW),[],[],[],[],(0:Int)⟩:tV).Cond (⟨r1.1,(0:Int),(0:Int),(0:Int),[],false,(⟨[]⟩:aW),[],[],[],[],(0:Int)⟩:tV).Keys (⟨r1.1,(0:Int),(0:Int),(0:Int),[],false,(⟨[]⟩:aW),[],[],[],[],(0:Int)⟩:tV).Aggs (⟨r1.1,(0:Int),(0:Int),(0:Int),[],false,(⟨[]⟩:aW),[],[],[],[],(0:Int)⟩:tV).Items r18.1 (IntKind.i64.wrap ((IntKind.i64.wrap r19.1)-(1:Int)))),r20.2.2.1,r19.2,r20.2.2.2))
  else
  (if(((⟨r1.1,(0:Int),(0:Int),(0:Int),[],false,(⟨[]⟩:aW),[],[],[],[],(0:Int)⟩:tV).Op)==(7:Int))then
  ((cU r r1.2 t (2:Int) at1).bind fun r21=>
  some ((tV.mk (⟨r1.1,(0:Int),(0:Int),(0:Int),[],false,(⟨[]⟩:aW),[],[],[],[],(0:Int)⟩:tV).Op r21.1 r21.2.1 (⟨r1.1,(0:Int),(0:Int),(0:Int),[],false,(⟨[]⟩:aW),[],[],[],[],(0:Int)⟩:tV).Table (⟨r1.1,(0:Int),(0:Int),(0:Int),[],false,(⟨[]⟩:aW),[],[],[],[],(0:Int)⟩:tV).Kinds (⟨r1.1,(0:Int),(0:Int),(0:Int),[],false,(⟨[]⟩:aW),[],[],[],[],(0:Int)⟩:tV).Left (⟨r1.1,(0:Int),(0:Int),(0:Int),[],false,(⟨[]⟩:aW),[],[],[],[],(0:Int)⟩:tV).Cond (⟨r1.1,(0:Int),(0:Int),(0:Int),[],false,(⟨[]⟩:aW),[],[],[],[],(0:Int)⟩:tV).Keys (⟨r1.1,(0:Int),(0:Int),(0:Int),[],false,(⟨[]⟩:aW),[],[],[],[],(0:Int)⟩:tV).Aggs (⟨r1.1,(0:Int),(0:Int),(0:Int),[],false,(⟨[]⟩:aW),[],[],[],[],(0:Int)⟩:tV).Items (⟨r1.1,(0:Int),(0:Int),(0:Int),[],false,(⟨[]⟩:aW),[],[],[],[],(0:Int)⟩:tV).Order (⟨r1.1,(0:Int),(0:Int),(0:Int),[],false,(⟨[]⟩:aW),[],[],[],[],(0:Int)⟩:tV).Limit),r21.2.2.1,r1.2,r21.2.2.2))
  else
  ((cU r r1.2 t (1:Int) at1).bind fun r22=>
  some ((tV.mk (⟨r1.1,(0:Int),(0:Int),(0:Int),[],false,(⟨[]⟩:aW),[],[],[],[],(0:Int)⟩:tV).Op r22.1 r22.2.1 (⟨r1.1,(0:Int),(0:Int),(0:Int),[],false,(⟨[]⟩:aW),[],[],[],[],(0:Int)⟩:tV).Table (⟨r1.1,(0:Int),(0:Int),(0:Int),[],false,(⟨[]⟩:aW),[],[],[],[],(0:Int)⟩:tV).Kinds (⟨r1.1,(0:Int),(0:Int),(0:Int),[],false,(⟨[]⟩:aW),[],[],[],[],(0:Int)⟩:tV).Left (⟨r1.1,(0:Int),(0:Int),(0:Int),[],false,(⟨[]⟩:aW),[],[],[],[],(0:Int)⟩:tV).Cond (⟨r1.1,(0:Int),(0:Int),(0:Int),[],false,(⟨[]⟩:aW),[],[],[],[],(0:Int)⟩:tV).Keys (⟨r1.1,(0:Int),(0:Int),(0:Int),[],false,(⟨[]⟩:aW),[],[],[],[],(0:Int)⟩:tV).Aggs (⟨r1.1,(0:Int),(0:Int),(0:Int),[],false,(⟨[]⟩:aW),[],[],[],[],(0:Int)⟩:tV).Items (⟨r1.1,(0:Int),(0:Int),(0:Int),[],false,(⟨[]⟩:aW),[],[],[],[],(0:Int)⟩:tV).Order (⟨r1.1,(0:Int),(0:Int),(0:Int),[],false,(⟨[]⟩:aW),[],[],[],[],(0:Int)⟩:tV).Limit),r22.2.2.1,r1.2,r22.2.2.2)))))

def mQ(r:be)(t:(List Int))(at1:Int)(r1:Int×an)(x:Bool):Option (tV×be×an×(List Int)):=
  if x then
  ((bS r r1.2).bind fun r2=>
  (iY r r2.2).bind fun r3=>
  (cU r r3.2 t (0:Int) at1).bind fun r4=>
  some ((tV.mk (⟨r1.1,(0:Int),(0:Int),(0:Int),[],false,(⟨[]⟩:aW),[],[],[],[],(0:Int)⟩:tV).Op r4.1 r4.2.1 r2.1 r3.1 (⟨r1.1,(0:Int),(0:Int),(0:Int),[],false,(⟨[]⟩:aW),[],[],[],[],(0:Int)⟩:tV).Left (⟨r1.1,(0:Int),(0:Int),(0:Int),[],false,(⟨[]⟩:aW),[],[],[],[],(0:Int)⟩:tV).Cond (⟨r1.1,(0:Int),(0:Int),(0:Int),[],false,(⟨[]⟩:aW),[],[],[],[],(0:Int)⟩:tV).Keys (⟨r1.1,(0:Int),(0:Int),(0:Int),[],false,(⟨[]⟩:aW),[],[],[],[],(0:Int)⟩:tV).Aggs (⟨r1.1,(0:Int),(0:Int),(0:Int),[],false,(⟨[]⟩:aW),[],[],[],[],(0:Int)⟩:tV).Items (⟨r1.1,(0:Int),(0:Int),(0:Int),[],false,(⟨[]⟩:aW),[],[],[],[],(0:Int)⟩:tV).Order (⟨r1.1,(0:Int),(0:Int),(0:Int),[],false,(⟨[]⟩:aW),[],[],[],[],(0:Int)⟩:tV).Limit),r4.2.2.1,r3.2,r4.2.2.2))
  else
  (if(((⟨r1.1,(0:Int),(0:Int),(0:Int),[],false,(⟨[]⟩:aW),[],[],[],[],(0:Int)⟩:tV).Op)==(2:Int))then
  ((kR r r1.2).bind fun r5=>
  (gJ r5.2.1 r5.2.2).bind fun r6=>
  (cU r6.2.1 r6.2.2 t (2:Int) at1).bind fun r7=>
  some ((tV.mk (⟨r1.1,(0:Int),(0:Int),(0:Int),[],false,(⟨[]⟩:aW),[],[],[],[],(0:Int)⟩:tV).Op r7.1 r7.2.1 (⟨r1.1,(0:Int),(0:Int),(0:Int),[],false,(⟨[]⟩:aW),[],[],[],[],(0:Int)⟩:tV).Table (⟨r1.1,(0:Int),(0:Int),(0:Int),[],false,(⟨[]⟩:aW),[],[],[],[],(0:Int)⟩:tV).Kinds r5.1 r6.1 (⟨r1.1,(0:Int),(0:Int),(0:Int),[],false,(⟨[]⟩:aW),[],[],[],[],(0:Int)⟩:tV).Keys (⟨r1.1,(0:Int),(0:Int),(0:Int),[],false,(⟨[]⟩:aW),[],[],[],[],(0:Int)⟩:tV).Aggs (⟨r1.1,(0:Int),(0:Int),(0:Int),[],false,(⟨[]⟩:aW),[],[],[],[],(0:Int)⟩:tV).Items (⟨r1.1,(0:Int),(0:Int),(0:Int),[],false,(⟨[]⟩:aW),[],[],[],[],(0:Int)⟩:tV).Order (⟨r1.1,(0:Int),(0:Int),(0:Int),[],false,(⟨[]⟩:aW),[],[],[],[],(0:Int)⟩:tV).Limit),r7.2.2.1,r6.2.2,r7.2.2.2))
  else
  (if(((⟨r1.1,(0:Int),(0:Int),(0:Int),[],false,(⟨[]⟩:aW),[],[],[],[],(0:Int)⟩:tV).Op)==(3:Int))then
  ((gJ r r1.2).bind fun r8=>
  (cU r8.2.1 r8.2.2 t (1:Int) at1).bind fun r9=>
  some ((tV.mk (⟨r1.1,(0:Int),(0:Int),(0:Int),[],false,(⟨[]⟩:aW),[],[],[],[],(0:Int)⟩:tV).Op r9.1 r9.2.1 (⟨r1.1,(0:Int),(0:Int),(0:Int),[],false,(⟨[]⟩:aW),[],[],[],[],(0:Int)⟩:tV).Table (⟨r1.1,(0:Int),(0:Int),(0:Int),[],false,(⟨[]⟩:aW),[],[],[],[],(0:Int)⟩:tV).Kinds (⟨r1.1,(0:Int),(0:Int),(0:Int),[],false,(⟨[]⟩:aW),[],[],[],[],(0:Int)⟩:tV).Left r8.1 (⟨r1.1,(0:Int),(0:Int),(0:Int),[],false,(⟨[]⟩:aW),[],[],[],[],(0:Int)⟩:tV).Keys (⟨r1.1,(0:Int),(0:Int),(0:Int),[],false,(⟨[]⟩:aW),[],[],[],[],(0:Int)⟩:tV).Aggs (⟨r1.1,(0:Int),(0:Int),(0:Int),[],false,(⟨[]⟩:aW),[],[],[],[],(0:Int)⟩:tV).Items (⟨r1.1,(0:Int),(0:Int),(0:Int),[],false,(⟨[]⟩:aW),[],[],[],[],(0:Int)⟩:tV).Order (⟨r1.1,(0:Int),(0:Int),(0:Int),[],false,(⟨[]⟩:aW),[],[],[],[],(0:Int)⟩:tV).Limit),r9.2.2.1,r8.2.2,r9.2.2.2))
  else
  (if(((⟨r1.1,(0:Int),(0:Int),(0:Int),[],false,(⟨[]⟩:aW),[],[],[],[],(0:Int)⟩:tV).Op)==(4:Int))then
  (ky r t at1 r1 (((⟨r1.1,(0:Int),(0:Int),(0:Int),[],false,(⟨[]⟩:aW),[],[],[],[],(0:Int)⟩:tV).Op)==(4:Int)))
  else
  (if(((⟨r1.1,(0:Int),(0:Int),(0:Int),[],false,(⟨[]⟩:aW),[],[],[],[],(0:Int)⟩:tV).Op)==(10:Int))then
  (ky r t at1 r1 (((⟨r1.1,(0:Int),(0:Int),(0:Int),[],false,(⟨[]⟩:aW),[],[],[],[],(0:Int)⟩:tV).Op)==(10:Int)))
  else
  (ky r t at1 r1 (((⟨r1.1,(0:Int),(0:Int),(0:Int),[],false,(⟨[]⟩:aW),[],[],[],[],(0:Int)⟩:tV).Op)==(11:Int)))))))

def rR(r:be)(in1:an)(t:(List Int))(at1:Int):Option (tV×be×an×(List Int)):=
 (bS r in1).bind fun r1=>
 if(((⟨r1.1,(0:Int),(0:Int),(0:Int),[],false,(⟨[]⟩:aW),[],[],[],[],(0:Int)⟩:tV).Op)==(1:Int))then
 (mQ r t at1 r1 (((⟨r1.1,(0:Int),(0:Int),(0:Int),[],false,(⟨[]⟩:aW),[],[],[],[],(0:Int)⟩:tV).Op)==(1:Int)))
 else
 (mQ r t at1 r1 (((⟨r1.1,(0:Int),(0:Int),(0:Int),[],false,(⟨[]⟩:aW),[],[],[],[],(0:Int)⟩:tV).Op)==(9:Int)))

def nj(r:be)(in1:an)(t:(List Int))(at1:Int):Option (tV×be×an×(List Int)×Int):=
 (rR r in1 t at1).bind fun r1=>
 some (r1.1,r1.2.1,r1.2.2.1,r1.2.2.2,(IntKind.i64.wrap (at1+(1:Int))))

def lp(out:List tV)(x:Int)(x1:List Int)(ob:be)(ob1:an):Option ((List tV)×be×an×(List Int)×Int):=
 some (out,ob,ob1,x1,x)

def gK(n:Int):Nat->(List tV)->Int->Int->(List Int)->be->an->Option ((List tV)×be×an×(List Int)×Int)
  |0,_,_,_,_,_,_=>none
  |n1+1,out1,x2,x3,x4,ob2,ob3=>
    if(decide (x2<n))then
    ((d8 ob2 ob3).bind fun r1=>
    if(!r1)then
    (lp out1 x3 x4 ob2 ob3)
    else
    ((nj ob2 ob3 x4 x3).bind fun r2=>
    (app out1 ([r2.1])).bind fun out2=>
    (gK n n1) out2 (IntKind.i64.wrap (x2+(1:Int))) r2.2.2.2.2 r2.2.2.2.1 r2.2.1 r2.2.2.1))
    else
    (lp out1 x3 x4 ob2 ob3)

def m7(r:be)(in1:an)(n:Int)(t:(List Int))(at1:Int):Option ((List tV)×be×an×(List Int)×Int):=
 gK n dk ([]:List tV) (0:Int) at1 t r in1

def po(r:be)(in1:an):Option (dv×be×an):=
 (bS r in1).bind fun r1=>
 (bS r r1.2).bind fun r2=>
 (iY r r2.2).bind fun r3=>
 (bS r r3.2).bind fun r4=>
 (m7 r r4.2 r4.1 ([]:List Int) (0:Int)).bind fun r5=>
 some ((dv.mk r5.1 (⟨[],r1.1,r2.1,r3.1⟩:dv).At (⟨[],r1.1,r2.1,r3.1⟩:dv).Way (⟨[],r1.1,r2.1,r3.1⟩:dv).Cols),r5.2.1,r5.2.2.1)

def lW(out:List dv)(ob:be)(ob1:an):Option ((List dv)×be×an):=
 some (out,ob,ob1)

def jq(n:Int):Nat->(List dv)->Int->be->an->Option ((List dv)×be×an)
  |0,_,_,_,_=>none
  |n1+1,out1,x,ob2,ob3=>
    if(decide (x<n))then
    ((d8 ob2 ob3).bind fun r1=>
    if(!r1)then
    (lW out1 ob2 ob3)
    else
    ((po ob2 ob3).bind fun r2=>
    (app out1 ([r2.1])).bind fun out2=>
    (jq n n1) out2 (IntKind.i64.wrap (x+(1:Int))) r2.2.1 r2.2.2))
    else
    (lW out1 ob2 ob3)

def nH(r:be)(in1:an)(n:Int):Option ((List dv)×be×an):=
 jq n dk ([]:List dv) (0:Int) r in1

def pn(r:be)(in1:an):Option (eV×be×an):=
 (bS r in1).bind fun r1=>
 (nH r r1.2 r1.1).bind fun r2=>
 some ((⟨r2.1⟩:eV),r2.2.1,r2.2.2)

def jZ(r:be)(in1:an):Option Bool:=
  (d8 r in1).bind fun r1=>
  if r1 then
  ((iu in1).bind fun r2=>
  some (r2==(0:Int)))
  else
  (some false)

def lF(b:(List Int)):Option (eV×Int):=
  (w7 b).bind fun r=>
  (pn r.1 r.2).bind fun r1=>
  (jZ r1.2.1 r1.2.2).bind fun r2=>
  (if(!(!r2))then((pV r1.1).bind fun r3=>
  some (!r3))else some true).bind fun t=>
  if t then
  (some ((⟨[]⟩:eV),(331:Int)))
  else
  (some (r1.1,(0:Int)))

def qn(p:eV):Option Bool:=
  (yo).bind fun r=>
  if(!r)then
  (some false)
  else
  ((pT p).bind fun r1=>
  if r1 then
  (some true)
  else
  ((sK p).bind fun r2=>
  (wT p).bind fun r3=>
  if(!r3)then
  (some (((r2.1.length:Int)==(0:Int))&&(r2.2==(290:Int))))
  else
  ((lF r2.1).bind fun r4=>
  (if(r2.2==(0:Int))then((wQ p).bind fun r5=>
  (tm r2.1 r5).bind fun r6=>
  some r6)else some false).bind fun t=>
  (if(t&&(r4.2==(0:Int)))then((wV p r4.1).bind fun r7=>
  some r7)else some false).bind fun t1=>
  some t1)))

end Go.Proofs.YtdohlidddcgfjaaGreat

