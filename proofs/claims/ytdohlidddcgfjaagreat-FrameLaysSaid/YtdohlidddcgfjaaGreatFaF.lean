/- cT of this claim: F. -/
import Derived.Test.YtdohlidddcgfjaaGreatFaD
import Derived.Test.YtdohlidddcgfjaaGreatFaV3
set_option linter.all false
namespace Go.Proofs.YtdohlidddcgfjaaGreat
open Go

def ue(nx1:Int→(List Int)→Option (List Int))(n2:Int):Nat→Int→(List Int)→Option (List Int)
  |0,_,_=>none
  |n4+1,x,out2=>
    if(decide (x<n2))then
    ((gj out2 n2).bind fun e4=>
    (gj out2 x).bind fun e5=>
    (gj out2 (IntKind.i64.wrap (n2+x))).bind fun e6=>
    (some (out2.set (IntKind.i64.wrap (n2+x)).toNat (oB .xor .u32 e4 e5))).bind fun ar3=>
    (ue nx1 n2 n4) (IntKind.i64.wrap (x+(1:Int))) ar3)
    else
    (nx1 (IntKind.i64.wrap (n2*(2:Int))) out2)

def rp:Nat→Int→(List Int)→Option (List Int)
 |0,_,_=>none
 |n3+1,n2,out1=>
  if(decide (n2<(256:Int)))then
  (ue (rp n3) n2 ef (0:Int) out1)
  else
  (some out1)

def rq:Nat→Int→(List Int)→Option (List Int)
  |0,_,_=>none
  |n1+1,n,out=>
    if(decide ((0:Int)<n))then
    ((gj out (IntKind.i64.wrap ((2:Int)*n))).bind fun e1=>
    (gj out n).bind fun e2=>
    (some (out.set n.toNat ((e1).fdiv (2^(min (Int.toNat (1:Int)) IntKind.u32.bits))))).bind fun ar1=>
    if((oB .and .u32 e1 (1:Int))==(1:Int))then
    ((gj ar1 n).bind fun e3=>
    (some (ar1.set n.toNat (oB .xor .u32 e3 (2197175160:Int)))).bind fun ar2=>
    (rq n1) (IntKind.i64.wrap ((n).tdiv (2:Int))) ar2)
    else
    ((rq n1) (IntKind.i64.wrap ((n).tdiv (2:Int))) ar1))
    else
    (rp ef (2:Int) out)

def y5:Option (List Int):=
 (gj (List.replicate 256 (0:Int)) (128:Int)).bind fun e=>
 (some ((List.replicate 256 (0:Int)).set (128:Int).toNat (2197175160:Int))).bind fun ar=>
 rq ef (64:Int) ar

def sC(register:Int)(uP:(List Int))(c:Int):Option Int:=
 (gj uP (oB .xor .u8 (IntKind.u8.wrap register) c)).bind fun e=>
 some (oB .xor .u32 ((register).fdiv (2^(min (Int.toNat (8:Int)) IntKind.u32.bits))) e)

def nZ(r:(List Int)):List Int→Int→Option Int
 |[],register=>
  some (oB .xor .u32 (if IntKind.u32.signed then -1 else IntKind.u32.max) register)
 |e::tl,register=>
  (sC register r e).bind fun r1=>
  (nZ r tl) r1

def wh(b:(List Int)):Option Int:=
 (y5).bind fun r=>
 nZ r b (4294967295:Int)

def s0(b:(List Int)):Option (List Int):=
 (gn ([]:List Int) b).bind fun x=>
 some x

def mw:Nat→(List Int)→Int→Option (List Int)
 |0,out,n=>
  some out
 |k1+1,out,n=>
  (gn out ([(IntKind.u8.wrap n)])).bind fun out1=>
  (mw k1) out1 ((n).fdiv (2^(min (Int.toNat (8:Int)) IntKind.u32.bits)))

def rU(b:(List Int)):Option (List Int):=
 (wh b).bind fun r=>
 (s0 b).bind fun r1=>
 mw 4 r1 r

def mR(n:Int):Option Bool:=
 some ((decide ((0:Int)≤n))&&(decide (n≤(8:Int))))

def bW(s2:(List (List aF)))(eq:((List aF)→(List aF)→Option Bool)):List (List aF)→Nat→Option Bool
 |[],i=>
  some true
 |e::tl,i=>
  (gj s2 (i:Int)).bind fun e1=>
  (eq e e1).bind fun r=>
  if(!r)then
  (some false)
  else
  ((bW s2 eq tl) (i+1))

def cm(s1:(List (List aF)))(s2:(List (List aF)))(eq:((List aF)→(List aF)→Option Bool)):Option Bool:=
 if((s1.length:Int) !=(s2.length:Int))then
 (some false)
 else
 (bW s2 eq s1 0)

def dE(s2:(List aF)):List aF→Nat→Option Bool
 |[],i=>
  some true
 |e::tl,i=>
  (gj s2 (i:Int)).bind fun e1=>
  if(!decide (e=e1))then
  (some false)
  else
  ((dE s2 tl) (i+1))

def d7(s1:(List aF))(s2:(List aF)):Option Bool:=
 if((s1.length:Int) !=(s2.length:Int))then
 (some false)
 else
 (dE s2 s1 0)

def o7(p:(List aF))(y:(List aF)):Option Bool:=
 (d7 p y).bind fun r=>
 some r

def oo(a1:co)(b:co):Option Bool:=
 (cm a1.Batch.Rows b.Batch.Rows o7).bind fun r=>
 some (((((((a1.Kind==b.Kind)&&(a1.Session==b.Session))&&(a1.Seq==b.Seq))&&(a1.Limit==b.Limit))&&(a1.Batch.End==b.Batch.End))&&(a1.Batch.Count==b.Batch.Count))&&r)

def jj(s2:(List Int)):List Int→Nat→Option Bool
 |[],i=>
  some true
 |e::tl,i=>
  (gj s2 (i:Int)).bind fun e1=>
  if(e !=e1)then
  (some false)
  else
  ((jj s2 tl) (i+1))

def gR(s1:(List Int))(s2:(List Int)):Option Bool:=
 if((s1.length:Int) !=(s2.length:Int))then
 (some false)
 else
 (jj s2 s1 0)

def fU(s2:(List kq)):List kq→Nat→Option Bool
 |[],i=>
  some true
 |e::tl,i=>
  (gj s2 (i:Int)).bind fun e1=>
  if(!decide (e=e1))then
  (some false)
  else
  ((fU s2 tl) (i+1))

def gG(s1:(List kq))(s2:(List kq)):Option Bool:=
 if((s1.length:Int) !=(s2.length:Int))then
 (some false)
 else
 (fU s2 s1 0)

def eX(s2:(List bC)):List bC→Nat→Option Bool
 |[],i=>
  some true
 |e::tl,i=>
  (gj s2 (i:Int)).bind fun e1=>
  if(!decide (e=e1))then
  (some false)
  else
  ((eX s2 tl) (i+1))

def fI(s1:(List bC))(s2:(List bC)):Option Bool:=
 if((s1.length:Int) !=(s2.length:Int))then
 (some false)
 else
 (eX s2 s1 0)

def rM(a1:bv)(b:bv):Option Bool:=
 (fI a1.Nodes b.Nodes).bind fun r=>
 some r

def oG(p:fy)(q:fy):Option Bool:=
  (if(p.Tag==q.Tag)then((rM p.Arg q.Arg).bind fun r=>
  some r)else some false).bind fun t=>
  some t

def c0(s2:(List fy))(eq:(fy→fy→Option Bool)):List fy→Nat→Option Bool
 |[],i=>
  some true
 |e::tl,i=>
  (gj s2 (i:Int)).bind fun e1=>
  (eq e e1).bind fun r=>
  if(!r)then
  (some false)
  else
  ((c0 s2 eq tl) (i+1))

def dp(s1:(List fy))(s2:(List fy))(eq:(fy→fy→Option Bool)):Option Bool:=
 if((s1.length:Int) !=(s2.length:Int))then
 (some false)
 else
 (c0 s2 eq s1 0)

def cO(s2:(List bv))(eq:(bv→bv→Option Bool)):List bv→Nat→Option Bool
 |[],i=>
  some true
 |e::tl,i=>
  (gj s2 (i:Int)).bind fun e1=>
  (eq e e1).bind fun r=>
  if(!r)then
  (some false)
  else
  ((cO s2 eq tl) (i+1))

def cW(s1:(List bv))(s2:(List bv))(eq:(bv→bv→Option Bool)):Option Bool:=
 if((s1.length:Int) !=(s2.length:Int))then
 (some false)
 else
 (cO s2 eq s1 0)

def nE(p:ap)(y:ap):Option Bool:=
  (if((((((p.Op==y.Op)&&(p.A==y.A))&&(p.B==y.B))&&(p.Table==y.Table))&&(p.Left==y.Left))&&(p.Limit==y.Limit))then((gR p.Kinds y.Kinds).bind fun r=>
  some r)else some false).bind fun t=>
  (if t then((gR p.Keys y.Keys).bind fun r1=>
  some r1)else some false).bind fun t1=>
  (if t1 then((gG p.Order y.Order).bind fun r2=>
  some r2)else some false).bind fun t2=>
  (if t2 then((rM p.Cond y.Cond).bind fun r3=>
  some r3)else some false).bind fun t3=>
  (if t3 then((dp p.Aggs y.Aggs oG).bind fun r4=>
  some r4)else some false).bind fun t4=>
  (if t4 then((cW p.Items y.Items rM).bind fun r5=>
  some r5)else some false).bind fun t5=>
  some t5

def cN(s2:(List ez))(eq:(ez→ez→Option Bool)):List ez→Nat→Option Bool
 |[],i=>
  some true
 |e::tl,i=>
  (gj s2 (i:Int)).bind fun e1=>
  (eq e e1).bind fun r=>
  if(!r)then
  (some false)
  else
  ((cN s2 eq tl) (i+1))

def cV(s1:(List ez))(s2:(List ez))(eq:(ez→ez→Option Bool)):Option Bool:=
 if((s1.length:Int) !=(s2.length:Int))then
 (some false)
 else
 (cN s2 eq s1 0)

def cG(s2:(List ap))(eq:(ap→ap→Option Bool)):List ap→Nat→Option Bool
 |[],i=>
  some true
 |e::tl,i=>
  (gj s2 (i:Int)).bind fun e1=>
  (eq e e1).bind fun r=>
  if(!r)then
  (some false)
  else
  ((cG s2 eq tl) (i+1))

def cJ(s1:(List ap))(s2:(List ap))(eq:(ap→ap→Option Bool)):Option Bool:=
 if((s1.length:Int) !=(s2.length:Int))then
 (some false)
 else
 (cG s2 eq s1 0)

def qU(node:(ap→ap→Option Bool))(p:ez)(y:ez):Option Bool:=
  (if((p.At==y.At)&&(p.Way==y.Way))then((gR p.Cols y.Cols).bind fun r=>
  some r)else some false).bind fun t=>
  (if t then((cJ p.Nodes y.Nodes node).bind fun r1=>
  some r1)else some false).bind fun t1=>
  some t1

def wr(a1:dn)(b:dn):Option Bool:=
 (cV a1.Frags b.Frags (qU nE)).bind fun r=>
 some r

def ld(a1:cu)(b:cu):Option Bool:=
  (if((decide (([a1.Kind,a1.From,a1.To,a1.Epoch,a1.Frag,a1.Sites])=([b.Kind,b.From,b.To,b.Epoch,b.Frag,b.Sites])))&&(a1.Err==b.Err))then((oo a1.Packet b.Packet).bind fun r=>
  some r)else some false).bind fun t=>
  (if t then((wr a1.Plan b.Plan).bind fun r1=>
  some r1)else some false).bind fun t1=>
  some t1

def pG(m:cu)(x:Bool):Option Bool:=
  if x then
  ((ld (cu.mk (0:Int) (0:Int) (0:Int) (0:Int) (0:Int) m.Sites m.Plan (⟨(0:Int),(0:Int),(0:Int),(0:Int),(⟨[],false,(0:Int)⟩:dH)⟩:co) m.Err) (⟨(0:Int),(0:Int),(0:Int),(0:Int),(0:Int),(0:Int),(⟨[]⟩:dn),(⟨(0:Int),(0:Int),(0:Int),(0:Int),(⟨[],false,(0:Int)⟩:dH)⟩:co),(0:Int)⟩:cu)).bind fun r1=>
  some r1)
  else
  (if(m.Kind==(5:Int))then
  ((ld (cu.mk (0:Int) (0:Int) (0:Int) (0:Int) m.Frag m.Sites m.Plan m.Packet (0:Int)) (⟨(0:Int),(0:Int),(0:Int),(0:Int),(0:Int),(0:Int),(⟨[]⟩:dn),(⟨(0:Int),(0:Int),(0:Int),(0:Int),(⟨[],false,(0:Int)⟩:dH)⟩:co),(0:Int)⟩:cu)).bind fun r2=>
  some r2)
  else
  ((ld (cu.mk (0:Int) (0:Int) (0:Int) (0:Int) m.Frag m.Sites m.Plan m.Packet m.Err) (⟨(0:Int),(0:Int),(0:Int),(0:Int),(0:Int),(0:Int),(⟨[]⟩:dn),(⟨(0:Int),(0:Int),(0:Int),(0:Int),(⟨[],false,(0:Int)⟩:dH)⟩:co),(0:Int)⟩:cu)).bind fun r3=>
  some r3))

def sR(m:cu):Option Bool:=
  if(m.Kind==(1:Int))then
  ((ld (cu.mk (0:Int) (0:Int) (0:Int) (0:Int) m.Frag (0:Int) (⟨[]⟩:dn) m.Packet m.Err) (⟨(0:Int),(0:Int),(0:Int),(0:Int),(0:Int),(0:Int),(⟨[]⟩:dn),(⟨(0:Int),(0:Int),(0:Int),(0:Int),(⟨[],false,(0:Int)⟩:dH)⟩:co),(0:Int)⟩:cu)).bind fun r=>
  some r)
  else
  (if(m.Kind==(3:Int))then
  (pG m (m.Kind==(3:Int)))
  else
  (pG m (m.Kind==(4:Int))))

def pH(c:Int):Option Bool:=
 some ((decide (c<(0:Int)))||(decide ((16:Int)≤c)))

def fH(f:(Int→Option Bool)):List Int→Nat→Option Int
 |[],i=>
  some (-1:Int)
 |e::tl,i=>
  (f e).bind fun r=>
  if r then
  (some (i:Int))
  else
  ((fH f tl) (i+1))

def kX(s:(List Int))(f:(Int→Option Bool)):Option Int:=
 fH f s 0

def eK(s:(List Int))(f:(Int→Option Bool)):Option Bool:=
 (kX s f).bind fun r=>
 some (decide ((0:Int)≤r))

def od(k:Int):Option Bool:=
 some ((decide (k<(1:Int)))||(decide ((3:Int)<k)))

def jb(l:al):Option (Bool×al):=
 (eK ((({l with result:=l.n.Kinds}:al).n).Kinds) od).bind fun r=>
 some ((((((!r)&&(decide ((0:Int)≤((({l with result:=l.n.Kinds}:al).n).Table))))&&(decide (((({l with result:=l.n.Kinds}:al).n).Table)<(4:Int))))&&(decide ((0:Int)<(((({l with result:=l.n.Kinds}:al).n).Kinds).length:Int))))&&(decide ((((({l with result:=l.n.Kinds}:al).n).Kinds).length:Int)≤(4:Int)))),({l with result:=l.n.Kinds}:al))

def m6(k:Int):Option Bool:=
 some ((decide (k<(0:Int)))||(decide ((4:Int)<k)))

def iq(l:al):Option (Bool×al):=
 (eK ((({l with result:=l.n.Kinds}:al).n).Kinds) m6).bind fun r=>
 some ((((((!r)&&(decide ((0:Int)≤((({l with result:=l.n.Kinds}:al).n).Table))))&&(decide (((({l with result:=l.n.Kinds}:al).n).Table)<(30:Int))))&&(decide ((0:Int)<(((({l with result:=l.n.Kinds}:al).n).Kinds).length:Int))))&&(decide ((((({l with result:=l.n.Kinds}:al).n).Kinds).length:Int)≤(16:Int)))),({l with result:=l.n.Kinds}:al))

def lU(s:List Int):Option (List Int):=
 some s

def lV(n:Int):Option (List Int):=
  if(decide ((0:Int)<(IntKind.i64.wrap (n-(IntKind.i64.wrap ((0:Int)-(0:Int)))))))then
  ((UK (IntKind.i64.wrap (n-(IntKind.i64.wrap ((0:Int)-(0:Int)))))).bind fun _=>
  (AR (IntKind.i64.wrap (n-(IntKind.i64.wrap ((0:Int)-(0:Int))))) (0:Int)).bind fun mk=>
  (eP mk 0 (0:Int)).bind fun y=>
  lU y)
  else
  (lU ([]:List Int))

def ll(n:Int):Option (List Int):=
 if(decide (n<(0:Int)))then
 (none)
 else
 (lV n)

def iM:List (List Int)→(List Int)→Option (List Int)
 |[],newslice=>
  some newslice
 |e1::tl1,newslice=>
  (gn newslice e1).bind fun newslice1=>
  (iM tl1) newslice1

def iN(slices:(List (List Int))):List (List Int)→Int→Option (List Int)
 |[],size=>
  (ll size).bind fun r=>
  iM slices r
 |e::tl,size=>
  if(decide ((IntKind.i64.wrap (size+(e.length:Int)))<(0:Int)))then
  (none)
  else
  ((iN slices tl) (IntKind.i64.wrap (size+(e.length:Int))))

def iC(slices:(List (List Int))):Option (List Int):=
 iN slices slices (0:Int)

def qr(tag:Int):Option Int:=
  if((tag==(1:Int))||(tag==(2:Int)))then
  (some (0:Int))
  else
  (if((decide ((4:Int)≤tag))&&(decide (tag≤(7:Int))))then
  (some (1:Int))
  else
  (if((decide ((12:Int)≤tag))&&(decide (tag≤(23:Int))))then
  (some (2:Int))
  else
  (some (-1:Int))))

def jX(v1:aF):Option aF:=
 some v1

def pw(v2:aF):Option aF:=
 jX (aF.mk (0:Int) v2.N v2.U v2.S)

def pu(v:aF):Option aF:=
 pw (aF.mk v.Kind (0:Int) v.U v.S)

def pt(v3:aF):Option aF:=
 jX v3

def vn(v:aF):Option aF:=
  if(v.Kind==(1:Int))then
  (if((v.N !=(0:Int))&&(v.N !=(1:Int)))then
  (jX v)
  else
  (pu v))
  else
  (if(v.Kind==(2:Int))then
  (pu v)
  else
  (if(v.Kind==(0:Int))then
  (pw v)
  else
  (if(v.Kind==(3:Int))then
  (if(decide ((v.S.length:Int)≤(40:Int)))then
  (pt (aF.mk (0:Int) v.N v.U ([])))
  else
  (pt v))
  else
  (if(v.Kind==(4:Int))then
  (jX (aF.mk (0:Int) (0:Int) (0:Int) v.S))
  else
  (jX v)))))

def pb(v:aF):Option Int:=
 (vn v).bind fun r=>
 if(!decide (r=(⟨(0:Int),(0:Int),(0:Int),[]⟩:aF)))then
 (some (120:Int))
 else
 (some (0:Int))

def sy(v:aF):Option Bool:=
 (pb v).bind fun r=>
 some ((r==(0:Int))&&(v.Kind !=(4:Int)))

def sY(n:bC):Option Bool:=
  if(n.Tag==(1:Int))then
  ((sy n.Value).bind fun r=>
  some (r&&(n.Col==(0:Int))))
  else
  (if(n.Tag==(2:Int))then
  (some (((decide (n.Value=(⟨(0:Int),(0:Int),(0:Int),[]⟩:aF)))&&(decide ((0:Int)≤n.Col)))&&(decide (n.Col<(16:Int)))))
  else
  (some ((decide (n.Value=(⟨(0:Int),(0:Int),(0:Int),[]⟩:aF)))&&(n.Col==(0:Int)))))

def lG(nx:Nat→(List Int)→(List Int)→Option ((List Int)×Bool))(i:Nat)(e1:bC)(all:List Int)(open1:List Int)(r:Int):List Int→Nat→Int→(List Int)→Option ((List Int)×Bool)
  |[],i1,first,at1=>
    if(!decide (at1=([e1.L,e1.R])))then
    (some ([],false))
    else
    ((gn all ([first])).bind fun all1=>
    (eP open1 0 (IntKind.i64.wrap ((open1.length:Int)-r))).bind fun y1=>
    (gn y1 ([(i:Int)])).bind fun open2=>
    nx (i+1) all1 open2)
  |e2::tl1,i1,first,at1=>
    (gj all e2).bind fun e3=>
    (gj at1 (i1:Int)).bind fun e4=>
    (some (at1.set (i1:Int).toNat e2)).bind fun ar=>
    (lG nx i e1 all open1 r tl1) (i1+1) (min first e3) ar

def kg:List bC→Nat→(List Int)→(List Int)→Option ((List Int)×Bool)
  |[],i,all,open1=>
    some (all,(((open1.length:Int)==(1:Int))&&(decide ((all.length:Int)≤(1000:Int)))))
  |e1::tl,i,all,open1=>
    (qr e1.Tag).bind fun r=>
    (if(!((decide (r<(0:Int)))||(decide ((open1.length:Int)<r))))then((sY e1).bind fun r1=>
    some (!r1))else some true).bind fun t=>
    if t then
    (some ([],false))
    else
    ((eP open1 (IntKind.i64.wrap ((open1.length:Int)-r)) (open1.length:Int)).bind fun y=>
    lG (kg tl) i e1 all open1 r y 0 (i:Int) ([(-1:Int),(-1:Int)]))

def vY(e:bv):Option ((List Int)×Bool):=
 kg e.Nodes 0 ([]:List Int) ([]:List Int)

def sk(e:bv):Option Int:=
 (vY e).bind fun r=>
 if(!r.2)then
 (some (200:Int))
 else
 (some (0:Int))

def em(i:Nat)(y:List Int):Nat→Nat→(List Int)→Int→Option (List Int)
  |0,i1,s1,k=>
    (eP s1 k (s1.length:Int)).bind fun y1=>
    (some (s1.take k.toNat++List.replicate y1.length (0:Int))).bind fun cl=>
    (eP cl 0 k).bind fun y2=>
    some y2
  |k2+1,i1,s1,k=>
    (CE s1 (i:Int) y.length (i1:Int)).bind fun e3=>
    (CE s1 (i:Int) y.length (IntKind.i64.wrap ((i1:Int)-(1:Int)))).bind fun e4=>
    if(e3 !=e4)then
    ((CE s1 (i:Int) y.length (i1:Int)).bind fun e5=>
    (gj s1 k).bind fun e6=>
    (some (s1.set k.toNat e5)).bind fun st=>
    (em i y k2) (i1+1) st (IntKind.i64.wrap (k+(1:Int))))
    else
    ((em i y k2) (i1+1) s1 k)

def fg(s:(List Int)):List Int→Nat→Option (List Int)
  |[],i=>
    some s
  |e::tl,i=>
    (gj s (IntKind.i64.wrap ((i:Int)-(1:Int)))).bind fun e1=>
    if(e==e1)then
    ((eP s (i:Int) (s.length:Int)).bind fun y=>
    em i y (y.length-1) 1 s (i:Int))
    else
    ((fg s tl) (i+1))

def jI(s:(List Int)):Option (List Int):=
 if(decide ((s.length:Int)<(2:Int)))then
 (some s)
 else
 (fg s (s.drop (1)) 1)

def mg:List bC→(List Int)→Option (List Int)
  |[],out=>
    (AZ out).bind fun Sy=>
    (jI Sy).bind fun r1=>
    some r1
  |e1::tl,out=>
    if(e1.Tag==(2:Int))then
    ((gn out ([e1.Col])).bind fun out1=>
    (mg tl) out1)
    else
    ((mg tl) out)

def tR(e:bv):Option (List Int):=
 (sk e).bind fun r=>
 if(r !=(0:Int))then
 (some ([]:List Int))
 else
 (mg e.Nodes ([]:List Int))

def dY(s:(List Int)):Option (List Int):=
 (gn ([]:List Int) s).bind fun x=>
 some x

def oU(stack:(List Int))(k:Int):Option ((List Int)×(List Int)):=
 (eP stack (IntKind.i64.wrap ((stack.length:Int)-k)) (stack.length:Int)).bind fun y=>
 (dY y).bind fun r=>
 (eP stack 0 (IntKind.i64.wrap ((stack.length:Int)-k))).bind fun y1=>
 some (r,y1)

def lF(bad:Int)(stack:List Int):Option (Int×Int):=
  if(bad !=(0:Int))then
  (some ((0:Int),bad))
  else
  ((gj stack (0:Int)).bind fun e1=>
  some (e1,(0:Int)))

def gS(do1:(bC→(List Int)→Option (Int×Int))):List bC→Int→(List Int)→Option (Int×Int)
  |[],bad1,stack1=>
    lF bad1 stack1
  |e2::tl,bad1,stack1=>
    (qr e2.Tag).bind fun r=>
    (oU stack1 r).bind fun r1=>
    (do1 e2 r1.1).bind fun r2=>
    if(r2.2 !=(0:Int))then
    (lF r2.2 r1.2)
    else
    ((gn r1.2 ([r2.1])).bind fun l2=>
    (gS do1 tl) bad1 l2)

def oL(e:bv)(do1:(bC→(List Int)→Option (Int×Int))):Option (Int×Int):=
 gS do1 e.Nodes (0:Int) ([]:List Int)

def uU(tag:Int):Option Bool:=
 some ((tag==(4:Int))||((decide ((12:Int)≤tag))&&(decide (tag≤(15:Int)))))

def lH(kinds:(List Int))(n:bC):List Int→Int→Option (Int×Int)
  |[],own=>
    if(n.Tag==(1:Int))then
    (some (n.Value.Kind,(0:Int)))
    else
    (if(n.Tag==(2:Int))then
    ((gj kinds n.Col).bind fun e1=>
    some (e1,(0:Int)))
    else
    ((uU n.Tag).bind fun r=>
    if r then
    (if((own==(-1:Int))||((own !=(0:Int))&&(own !=(2:Int))))then
    (some ((0:Int),(201:Int)))
    else
    (some ((2:Int),(0:Int))))
    else
    (if(((n.Tag==(5:Int))||(n.Tag==(22:Int)))||(n.Tag==(23:Int)))then
    (if((own==(-1:Int))||((own !=(0:Int))&&(own !=(1:Int))))then
    (some ((0:Int),(201:Int)))
    else
    (some ((1:Int),(0:Int))))
    else
    (if((own==(-1:Int))||((own !=(0:Int))&&(own !=own)))then
    (some ((0:Int),(201:Int)))
    else
    (some ((1:Int),(0:Int)))))))
  |e::tl,own=>
    if((e==(0:Int))||(e==own))then
    ((lH kinds n tl) own)
    else
    (if(own==(0:Int))then
    ((lH kinds n tl) e)
    else
    ((lH kinds n tl) (-1:Int)))

def je(kinds:(List Int))(n:bC)(l:(List Int)):Option (Int×Int):=
 lH kinds n l (0:Int)

def me(e:bv)(kinds:(List Int)):List Int→Option (Int×Int)
 |[]=>
  (oL e (je kinds)).bind fun r2=>
  some (r2.1,r2.2)
 |e2::tl1=>
  if(decide ((kinds.length:Int)≤e2))then
  (some ((0:Int),(2:Int)))
  else
  ((me e kinds tl1))

def pO(e:bv)(kinds:(List Int)):List Int→Option (Int×Int)
 |[]=>
  (tR e).bind fun r1=>
  me e kinds r1
 |e1::tl=>
  if((decide (e1<(0:Int)))||(decide ((3:Int)<e1)))then
  (some ((0:Int),(2:Int)))
  else
  ((pO e kinds tl))

def mV(e:bv)(kinds:(List Int)):Option (Int×Int):=
 (sk e).bind fun r=>
 if(r !=(0:Int))then
 (some ((0:Int),r))
 else
 (pO e kinds kinds)

def jy(e:bv)(kinds:(List Int)):Option Bool:=
 (mV e kinds).bind fun r=>
 some ((r.2==(0:Int))&&((r.1==(0:Int))||(r.1==(1:Int))))

def gC(l:al):Option (Bool×al):=
 (iC ([l.a_,l.b])).bind fun r=>
 (jy ((({l with result:=r}:al).n).Cond) (({l with result:=r}:al).result)).bind fun r1=>
 some (r1,({l with result:=r}:al))

def fC(l:al):Option (Bool×al):=
 (jy ((({l with result:=l.a_}:al).n).Cond) (({l with result:=l.a_}:al).a_)).bind fun r=>
 some (r,({l with result:=l.a_}:al))

def eG(nx1:Bool→al→Option (Bool×al))(ob1:al)(ok1:Bool)(k:Int):Option (Bool×al):=
 (gn ob1.result ([k])).bind fun l7=>
 nx1 ok1 ({ob1 with result:=l7}:al)

def gJ(nx1:Bool→al→Option (Bool×al))(e1:fy)(ok:Bool)(ob1:al)(r:Int×Int)(x:Bool):Option (Bool×al):=
 if x then
 (eG nx1 ob1 (((ok&&(r.2==(0:Int)))&&(decide ((1:Int)<e1.Tag)))&&(decide (e1.Tag≤(5:Int)))) r.1)
 else
 (eG nx1 ob1 (((ok&&(r.2==(0:Int)))&&(decide ((1:Int)<e1.Tag)))&&(decide (e1.Tag≤(5:Int)))) (2:Int))

def cr:List fy→Bool→al→Option (Bool×al)
  |[],ok,ob1=>
    some (ok,ob1)
  |e1::tl1,ok,ob1=>
    if(e1.Tag==(1:Int))then
    (eG (cr tl1) ob1 (ok&&((e1.Arg.Nodes.length:Int)==(0:Int))) (2:Int))
    else
    ((mV e1.Arg ob1.a_).bind fun r=>
    if(e1.Tag==(3:Int))then
    (eG (cr tl1) ob1 ((((ok&&(r.2==(0:Int)))&&(decide ((1:Int)<e1.Tag)))&&(decide (e1.Tag≤(5:Int))))&&((r.1==(2:Int))||(r.1==(0:Int)))) (2:Int))
    else
    (if(e1.Tag==(4:Int))then
    (gJ (cr tl1) e1 ok ob1 r (e1.Tag==(4:Int)))
    else
    (gJ (cr tl1) e1 ok ob1 r (e1.Tag==(5:Int)))))

def dy(l:al):List Int→al→Option (Bool×al)
  |[],ob=>
    cr l.n.Aggs (((decide ((l.n.Keys.length:Int)≤(3:Int)))&&(decide ((l.n.Aggs.length:Int)≤(12:Int))))&&(decide ((0:Int)<(IntKind.i64.wrap ((l.n.Keys.length:Int)+(l.n.Aggs.length:Int)))))) ob
  |e::tl,ob=>
    if((decide (e<(0:Int)))||(decide ((ob.a_.length:Int)≤e)))then
    (some (false,ob))
    else
    ((gj ob.a_ e).bind fun e2=>
    (gn ob.result ([e2])).bind fun l9=>
    (dy l tl) ({ob with result:=l9}:al))

def ep(l:al):Option (Bool×al):=
 dy l l.n.Keys ({l with result:=([]:List Int)}:al)

def ff:List fy→Nat→al→Option (Bool×al)
  |[],i1,ob=>
    some (true,ob)
  |e::tl,i1,ob=>
    if(e.Tag==(3:Int))then
    ((gj ob.result (IntKind.i64.wrap ((ob.n.Keys.length:Int)+(i1:Int)))).bind fun e1=>
    (some (ob.result.set (IntKind.i64.wrap ((ob.n.Keys.length:Int)+(i1:Int))).toNat (4:Int))).bind fun st=>
    (ff tl) (i1+1) ({ob with result:=st}:al))
    else
    ((ff tl) (i1+1) ob)

def fb(l:al):Option (Bool×al):=
 (ep l).bind fun r=>
 if(!r.1)then
 (some (false,r.2))
 else
 (ff r.2.n.Aggs 0 r.2)

def gK(nx1:Nat→Bool→al→Option (Bool×al))(i1:Nat)(e2:fy)(ok1:Bool)(ob:al)(e3:Int)(x1:Bool):Option (Bool×al):=
 if x1 then
 (nx1 (i1+1) ((ok1&&((e2.Arg.Nodes.length:Int)==(0:Int)))&&(e3 !=(4:Int))) ob)
 else
 (nx1 (i1+1) false ob)

def fj(l:al)(nx1:Nat→Bool→al→Option (Bool×al))(i1:Nat)(e2:fy)(ok1:Bool)(ob:al)(e3:Int)(x:Bool):Option (Bool×al):=
  if x then
  (nx1 (i1+1) ((ok1&&((e2.Arg.Nodes.length:Int)==(0:Int)))&&(e3==(2:Int))) ob)
  else
  (if(e2.Tag==(3:Int))then
  ((gj ob.result (IntKind.i64.wrap ((l.n.Keys.length:Int)+(i1:Int)))).bind fun e4=>
  (some (ob.result.set (IntKind.i64.wrap ((l.n.Keys.length:Int)+(i1:Int))).toNat (2:Int))).bind fun st=>
  nx1 (i1+1) ((ok1&&((e2.Arg.Nodes.length:Int)==(0:Int)))&&(e3==(4:Int))) ({ob with result:=st}:al))
  else
  (if(e2.Tag==(4:Int))then
  (gK nx1 i1 e2 ok1 ob e3 (e2.Tag==(4:Int)))
  else
  (gK nx1 i1 e2 ok1 ob e3 (e2.Tag==(5:Int)))))

def bY(l:al):List fy→Nat→Bool→al→Option (Bool×al)
 |[],i1,ok1,ob=>
  some (ok1,ob)
 |e2::tl1,i1,ok1,ob=>
  (gj ob.a_ (IntKind.i64.wrap ((l.n.Keys.length:Int)+(i1:Int)))).bind fun e3=>
  if(e2.Tag==(1:Int))then
  (fj l (bY l tl1) i1 e2 ok1 ob e3 (e2.Tag==(1:Int)))
  else
  (fj l (bY l tl1) i1 e2 ok1 ob e3 (e2.Tag==(2:Int)))

def ec(l:al)(r:(List Int)):List Int→Nat→Bool→Option (Bool×al)
  |[],i,ok=>
    bY l l.n.Aggs 0 ok ({l with result:=r}:al)
  |e1::tl,i,ok=>
    (if(ok&&(e1==(i:Int)))then((gj l.a_ (i:Int)).bind fun e5=>
    some (e5 !=(4:Int)))else some false).bind fun t=>
    (ec l r tl) (i+1) t

def eu(l:al):Option (Bool×al):=
  (gj l.nodes l.n.A).bind fun e=>
  if(!((((e.Op==(9:Int))&&(decide ((l.n.Keys.length:Int)≤(3:Int))))&&(decide ((l.n.Aggs.length:Int)≤(12:Int))))&&((IntKind.i64.wrap ((l.n.Keys.length:Int)+(l.n.Aggs.length:Int)))==(l.a_.length:Int))))then
  (some (false,l))
  else
  ((dY l.a_).bind fun r=>
  ec l r l.n.Keys 0 ((((e.Op==(9:Int))&&(decide ((l.n.Keys.length:Int)≤(3:Int))))&&(decide ((l.n.Aggs.length:Int)≤(12:Int))))&&((IntKind.i64.wrap ((l.n.Keys.length:Int)+(l.n.Aggs.length:Int)))==(l.a_.length:Int))))

def ev:List bv→al→Option (Bool×al)
  |[],ob=>
    some (decide ((0:Int)<(ob.result.length:Int)),ob)
  |e::tl,ob=>
    (mV e ob.a_).bind fun r=>
    if(r.2 !=(0:Int))then
    (some (false,ob))
    else
    ((gn ob.result ([r.1])).bind fun l4=>
    (ev tl) ({ob with result:=l4}:al))

def hU(l:al):Option (Bool×al):=
 ev l.n.Items ({l with result:=([]:List Int)}:al)

def ky(l:al):Option (Bool×al):=
 some (true,({l with result:=l.a_}:al))

def fi(nx:Nat→al→Option (Bool×al))(i:Nat)(ob:al)(e1:Int)(k:Int):Option (Bool×al):=
  if((e1 !=(0:Int))&&(e1 !=k))then
  (some (false,ob))
  else
  ((gn ob.result ([k])).bind fun l4=>
  nx (i+1) ({ob with result:=l4}:al))

def dx:List Int→Nat→al→Option (Bool×al)
 |[],i,ob=>
  some (true,ob)
 |e::tl,i,ob=>
  (gj ob.b (i:Int)).bind fun e1=>
  if(e==(0:Int))then
  (fi (dx tl) i ob e1 e1)
  else
  (fi (dx tl) i ob e1 e)

def ip(l:al):Option (Bool×al):=
 if((l.a_.length:Int) !=(l.b.length:Int))then
 (some (false,l))
 else
 (dx l.a_ 0 ({l with result:=([]:List Int)}:al))

def dX(f:(kq→Option Bool)):List kq→Nat→Option Int
 |[],i=>
  some (-1:Int)
 |e::tl,i=>
  (f e).bind fun r=>
  if r then
  (some (i:Int))
  else
  ((dX f tl) (i+1))

def g9(s:(List kq))(f:(kq→Option Bool)):Option Int:=
 dX f s 0

def eZ(s:(List kq))(f:(kq→Option Bool)):Option Bool:=
 (g9 s f).bind fun r=>
 some (decide ((0:Int)≤r))

def lA(l:al)(o:kq):Option Bool:=
 some ((decide (o.Col<(0:Int)))||(decide ((l.a_.length:Int)≤o.Col)))

def ja(l:al):Option (Bool×al):=
 (eZ ((({l with result:=l.a_}:al).n).Order) (lA ({l with result:=l.a_}:al))).bind fun r=>
 some (((((!r)&&(decide ((((({l with result:=l.a_}:al).n).Order).length:Int)≤(3:Int))))&&(decide ((-1:Int)≤((({l with result:=l.a_}:al).n).Limit))))&&(decide (((({l with result:=l.a_}:al).n).Limit)≤(2147483647:Int)))),({l with result:=l.a_}:al))

def mN:Option (List (Int×(al→Unit→Option (Bool×al)))):=
 some (gi (gi (gi (gi (gi (gi (gi (gi (gi (gi (gi ([]:List (Int×(al→Unit→Option (Bool×al)))) (1:Int) (fun(mc:al) (mx:Unit)=>jb mc)) (9:Int) (fun(mc:al) (mx:Unit)=>iq mc)) (2:Int) (fun(mc:al) (mx:Unit)=>gC mc)) (3:Int) (fun(mc:al) (mx:Unit)=>fC mc)) (4:Int) (fun(mc:al) (mx:Unit)=>ep mc)) (10:Int) (fun(mc:al) (mx:Unit)=>fb mc)) (11:Int) (fun(mc:al) (mx:Unit)=>eu mc)) (5:Int) (fun(mc:al) (mx:Unit)=>hU mc)) (6:Int) (fun(mc:al) (mx:Unit)=>ky mc)) (7:Int) (fun(mc:al) (mx:Unit)=>ip mc)) (8:Int) (fun(mc:al) (mx:Unit)=>ja mc))

def iR(x2:Bool):Option Int:=
 if x2 then
 (some (1:Int))
 else
 (some (-1:Int))

def qF(op:Int)(x1:Bool):Option Int:=
  if x1 then
  (some (2:Int))
  else
  (if(op==(3:Int))then
  (iR (op==(3:Int)))
  else
  (if(op==(4:Int))then
  (iR (op==(4:Int)))
  else
  (if(op==(5:Int))then
  (iR (op==(5:Int)))
  else
  (if(op==(6:Int))then
  (iR (op==(6:Int)))
  else
  (if(op==(8:Int))then
  (iR (op==(8:Int)))
  else
  (if(op==(10:Int))then
  (iR (op==(10:Int)))
  else
  (iR (op==(11:Int)))))))))

def qG(op:Int)(x:Bool):Option Int:=
  if x then
  (some (0:Int))
  else
  (if(op==(2:Int))then
  (qF op (op==(2:Int)))
  else
  (qF op (op==(7:Int))))

def uw(op:Int):Option Int:=
 if(op==(1:Int))then
 (qG op (op==(1:Int)))
 else
 (qG op (op==(9:Int)))

def qd(n:ap):Option Bool:=
 some ((((((((n.Op==(1:Int))||(n.Op==(9:Int)))||((n.Table==(0:Int))&&((n.Kinds.length:Int)==(0:Int))))&&((n.Op==(2:Int))||(!n.Left)))&&(((n.Op==(2:Int))||(n.Op==(3:Int)))||((n.Cond.Nodes.length:Int)==(0:Int))))&&((((n.Op==(4:Int))||(n.Op==(10:Int)))||(n.Op==(11:Int)))||((IntKind.i64.wrap ((n.Keys.length:Int)+(n.Aggs.length:Int)))==(0:Int))))&&((n.Op==(5:Int))||((n.Items.length:Int)==(0:Int))))&&((n.Op==(8:Int))||(((n.Order.length:Int)==(0:Int))&&(n.Limit==(0:Int)))))

def gQ(v:Int):List Int→Nat→Option Int
 |[],i=>
  some (-1:Int)
 |e::tl,i=>
  if(v==e)then
  (some (i:Int))
  else
  ((gQ v tl) (i+1))

def nm(s:(List Int))(v:Int):Option Int:=
 gQ v s 0

def fN(s:(List Int))(v:Int):Option Bool:=
 (nm s v).bind fun r=>
 some (decide ((0:Int)≤r))

def bh(l:al)(i:Int)(ask:(al→Unit→Option (Bool×al)))(e:ap)(r:Int):List Int→Nat→(List Int)→(List Int)→Option (Bool×al)
  |[],i5,a_,b3=>
    if(((e.Op==(8:Int))||(e.Op==(10:Int)))&&(i !=(IntKind.i64.wrap (((({({({({({l with n:=e}:al)with a_:=[]}:al)with b:=[]}:al)with a_:=a_}:al)with b:=b3}:al).nodes).length:Int)-(1:Int)))))then
    (some (false,({({({({({l with n:=e}:al)with a_:=[]}:al)with b:=[]}:al)with a_:=a_}:al)with b:=b3}:al)))
    else
    ((ask ({({({({({l with n:=e}:al)with a_:=[]}:al)with b:=[]}:al)with a_:=a_}:al)with b:=b3}:al) ()).bind fun r2=>
    if((!r2.1)||(decide ((16:Int)<(r2.2.result.length:Int))))then
    (some (false,r2.2))
    else
    ((gn r2.2.kinds ([r2.2.result])).bind fun l1=>
    (eP r2.2.open_ 0 (IntKind.i64.wrap ((r2.2.open_.length:Int)-r))).bind fun y2=>
    (gn y2 ([i])).bind fun l2=>
    some (true,({({r2.2 with kinds:=l1}:al)with open_:=l2}:al))))
  |e1::tl,i5,a_,b3=>
    (gj l.kinds e1).bind fun e2=>
    (if(e.Op !=(11:Int))then((fN e2 (4:Int)).bind fun r3=>
    some r3)else some false).bind fun t1=>
    if t1 then
    (some (false,({({({({({l with n:=e}:al)with a_:=[]}:al)with b:=[]}:al)with a_:=a_}:al)with b:=b3}:al)))
    else
    (if((i5:Int)==(0:Int))then
    ((bh l i ask e r tl) (i5+1) (({({({({({({l with n:=e}:al)with a_:=[]}:al)with b:=[]}:al)with a_:=a_}:al)with b:=b3}:al)with a_:=e2}:al).a_) (({({({({({({l with n:=e}:al)with a_:=[]}:al)with b:=[]}:al)with a_:=a_}:al)with b:=b3}:al)with a_:=e2}:al).b))
    else
    ((bh l i ask e r tl) (i5+1) (({({({({({({l with n:=e}:al)with a_:=[]}:al)with b:=[]}:al)with a_:=a_}:al)with b:=b3}:al)with b:=e2}:al).a_) (({({({({({({l with n:=e}:al)with a_:=[]}:al)with b:=[]}:al)with a_:=a_}:al)with b:=b3}:al)with b:=e2}:al).b)))

def dO(l:al)(i:Int)(ask:(al→Unit→Option (Bool×al))):Option (Bool×al):=
  (gj l.nodes i).bind fun e=>
  (uw e.Op).bind fun r=>
  (if(!((decide (r<(0:Int)))||(decide ((l.open_.length:Int)<r))))then((qd e).bind fun r1=>
  some (!r1))else some true).bind fun t=>
  if t then
  (some (false,l))
  else
  ((eP l.open_ (IntKind.i64.wrap ((l.open_.length:Int)-r)) (l.open_.length:Int)).bind fun y=>
  if(!decide ((rj ([(-1:Int),(-1:Int)]) y)=([e.A,e.B])))then
  (some (false,l))
  else
  ((eP l.open_ (IntKind.i64.wrap ((l.open_.length:Int)-r)) (l.open_.length:Int)).bind fun y1=>
  bh l i ask e r y1 0 (({({({l with n:=e}:al)with a_:=[]}:al)with b:=[]}:al).a_) (({({({l with n:=e}:al)with a_:=[]}:al)with b:=[]}:al).b)))

def mO:List (List Int)→(List (List Int))→Option ((List (List Int))×Int×Int)
 |[],out=>
  some (out,(0:Int),(0:Int))
 |e::tl,out=>
  (dY e).bind fun r1=>
  (gn out ([r1])).bind fun out1=>
  (mO tl) out1

def lb(ob:al)(wrong1:Int):Option ((List (List Int))×Int×Int):=
 if(decide ((0:Int)≤wrong1))then
 (some ([],wrong1,(291:Int)))
 else
 (mO ob.kinds ([]:List (List Int)))

def jN(nodes:(List ap))(wrong:Int)(ob:al):Option ((List (List Int))×Int×Int):=
 if((decide (wrong<(0:Int)))&&((ob.open_.length:Int) !=(1:Int)))then
 (lb ob (IntKind.i64.wrap ((nodes.length:Int)-(1:Int))))
 else
 (lb ob wrong)

def gh(nodes:(List ap))(r:(List (Int×(al→Unit→Option (Bool×al))))):List ap→Nat→Int→al→Option ((List (List Int))×Int×Int)
 |[],i1,wrong2,ob1=>
  jN nodes wrong2 ob1
 |e1::tl1,i1,wrong2,ob1=>
  (dO ob1 (i1:Int) ((tg r e1.Op).getD (fun _ _=>none))).bind fun r2=>
  if(!r2.1)then
  (jN nodes (i1:Int) r2.2)
  else
  ((gh nodes r tl1) (i1+1) wrong2 r2.2)

def lc(nodes:(List ap)):Option ((List (List Int))×Int×Int):=
  if((decide ((nodes.length:Int)<(1:Int)))||(decide ((60:Int)<(nodes.length:Int))))then
  (some ([],(0:Int),(291:Int)))
  else
  ((mN).bind fun r=>
  gh nodes r nodes 0 (-1:Int) (⟨nodes,[],[],(⟨(0:Int),(0:Int),(0:Int),(0:Int),[],false,(⟨[]⟩:bv),[],[],[],[],(0:Int)⟩:ap),[],[],[]⟩:al))

def mS(p:dn):List ez→Option Bool
  |[]=>
    some ((decide ((1:Int)≤(p.Frags.length:Int)))&&(decide ((p.Frags.length:Int)≤(30:Int))))
  |e::tl=>
    (lc e.Nodes).bind fun r=>
    (if(((decide ((1:Int)≤e.Way))&&(decide (e.Way≤(4:Int))))&&(decide ((e.Cols.length:Int)≤(16:Int))))then((eK e.Cols pH).bind fun r1=>
    some (!r1))else some false).bind fun t=>
    if(((r.2.2 !=(0:Int))||(!((e.At==(1:Int))||(e.At==(2:Int)))))||(!t))then
    (some false)
    else
    ((mS p tl))

def xy(p:dn):Option Bool:=
 mS p p.Frags

def ux(n:Int):Option Bool:=
 some ((decide ((1:Int)≤n))&&(decide (n≤(2147483647:Int))))

def dW(f:((List aF)→Option Bool)):List (List aF)→Nat→Option Int
 |[],i=>
  some (-1:Int)
 |e::tl,i=>
  (f e).bind fun r=>
  if r then
  (some (i:Int))
  else
  ((dW f tl) (i+1))

def gZ(s:(List (List aF)))(f:((List aF)→Option Bool)):Option Int:=
 dW f s 0

def eY(s:(List (List aF)))(f:((List aF)→Option Bool)):Option Bool:=
 (gZ s f).bind fun r=>
 some (decide ((0:Int)≤r))

def qP(v:aF):Option Bool:=
 (pb v).bind fun r=>
 some (r !=(0:Int))

def cZ(f:(aF→Option Bool)):List aF→Nat→Option Int
 |[],i=>
  some (-1:Int)
 |e::tl,i=>
  (f e).bind fun r=>
  if r then
  (some (i:Int))
  else
  ((cZ f tl) (i+1))

def j0(s:(List aF))(f:(aF→Option Bool)):Option Int:=
 cZ f s 0

def gk(s:(List aF))(f:(aF→Option Bool)):Option Bool:=
 (j0 s f).bind fun r=>
 some (decide ((0:Int)≤r))

def wj(r:(List aF)):Option Bool:=
  (if(decide ((r.length:Int)≤(16:Int)))then((gk r qP).bind fun r1=>
  some (!r1))else some false).bind fun t=>
  some t

def wk(r:(List aF)):Option Int:=
 (wj r).bind fun r1=>
 if(!r1)then
 (some (150:Int))
 else
 (some (0:Int))

def vO(r:(List aF)):Option Bool:=
 (wk r).bind fun r1=>
 some (r1 !=(0:Int))

def wz(l:(List (List aF))):Option Bool:=
  (if((decide ((0:Int)<(l.length:Int)))&&(decide ((l.length:Int)≤(4:Int))))then((eY l vO).bind fun r=>
  some (!r))else some false).bind fun t=>
  some t

def uy(b:dH)(seq:Int):Option Bool:=
  if((decide (seq<(1:Int)))||(decide ((1099511627776:Int)<seq)))then
  (some false)
  else
  (if b.End then
  (some (((b.Rows.length:Int)==(0:Int))&&(b.Count==(IntKind.u64.wrap (seq-(1:Int))))))
  else
  ((if(b.Count==(0:Int))then((wz b.Rows).bind fun r=>
  some r)else some false).bind fun t=>
  some t))

def tG(a1:(List aF))(b:(List aF)):Option Bool:=
 (d7 a1 b).bind fun r=>
 some r

def yd(a1:(List (List aF)))(b:(List (List aF))):Option Bool:=
 (cm a1 b tG).bind fun r=>
 some r

def wy(a1:dH)(b:dH):Option Bool:=
  (if((a1.End==b.End)&&(a1.Count==b.Count))then((yd a1.Rows b.Rows).bind fun r=>
  some r)else some false).bind fun t=>
  some t

def ol(p:co):Option Int:=
  (ux p.Session).bind fun r=>
  if(p.Kind==(1:Int))then
  ((if(r&&(p.Limit==(0:Int)))then((uy p.Batch p.Seq).bind fun r1=>
  some r1)else some false).bind fun t=>
  if(!t)then
  (some (321:Int))
  else
  (some (0:Int)))
  else
  (if(p.Kind==(2:Int))then
  ((if r then((wy p.Batch (⟨[],false,(0:Int)⟩:dH)).bind fun r2=>
  some r2)else some false).bind fun t1=>
  if(!((((t1&&(decide ((1:Int)≤p.Seq)))&&(decide (p.Seq≤(1099511627777:Int))))&&(decide ((IntKind.u64.wrap (p.Seq-(1:Int)))≤p.Limit)))&&(decide (p.Limit≤(1099511627776:Int)))))then
  (some (321:Int))
  else
  (some (0:Int)))
  else
  (if(!false)then
  (some (321:Int))
  else
  (some (0:Int))))

def ib(m:cu)(kind:Int):Option Bool:=
  (if(((decide ((0:Int)≤m.Frag))&&(decide (m.Frag<(30:Int))))&&(m.Packet.Kind==kind))then((ol m.Packet).bind fun r=>
  some (r==(0:Int)))else some false).bind fun t=>
  some t

def mq(m:cu)(x:Bool):Option Bool:=
  if x then
  (some true)
  else
  (if(m.Kind==(3:Int))then
  (((ib m) (1:Int)).bind fun r1=>
  some r1)
  else
  (if(m.Kind==(4:Int))then
  (((ib m) (2:Int)).bind fun r2=>
  some r2)
  else
  (if(m.Kind==(5:Int))then
  (some ((m.Err==(140:Int))||(m.Err==(300:Int))))
  else
  (some false))))

def rC(m:cu):Option Bool:=
  if(m.Kind==(1:Int))then
  ((if((decide ((1:Int)≤m.Sites))&&(decide (m.Sites≤(8:Int))))then((xy m.Plan).bind fun r=>
  some r)else some false).bind fun t=>
  some t)
  else
  (if(m.Kind==(2:Int))then
  (mq m (m.Kind==(2:Int)))
  else
  (if(m.Kind==(6:Int))then
  (mq m (m.Kind==(6:Int)))
  else
  (mq m (m.Kind==(7:Int)))))

def sS(m:cu):Option Bool:=
  (mR m.From).bind fun r=>
  (if r then((mR m.To).bind fun r1=>
  some r1)else some false).bind fun t=>
  (if((t&&(decide ((1:Int)≤m.Epoch)))&&(decide (m.Epoch≤(12:Int))))then((sR m).bind fun r2=>
  some r2)else some false).bind fun t1=>
  (if t1 then((rC m).bind fun r3=>
  some r3)else some false).bind fun t2=>
  some t2

def fG:List Int→aI→Option aI
 |[],ob=>
  some ob
 |e::tl,ob=>
  (gn ob.bytes ([(IntKind.u8.wrap e)])).bind fun l2=>
  (fG tl) ({ob with bytes:=l2}:aI)

def bZ(w1:aI)(l:(List Int)):Option aI:=
 fG l w1

def js(w1:aI)(l:(List Int)):Option aI:=
 (bZ w1 ([(l.length:Int)])).bind fun r=>
 (bZ r l).bind fun r1=>
 some r1

def fc(w1:aI)(n:ap):Option aI:=
 (bZ w1 ([n.Table])).bind fun r=>
 (js r n.Kinds).bind fun r1=>
 some r1

def kQ(w1:aI)(n:Int):Option aI:=
 (bZ w1 ([n])).bind fun r=>
 some r

def gw(w1:aI)(is1:Bool):Option aI:=
 if is1 then
 (kQ w1 (1:Int))
 else
 (kQ w1 (0:Int))

def jF(p:Int)(bytes:Int):Nat→(List Int)→Int→Option (List Int)
  |0,_,_=>none
  |n+1,out1,x=>
    if(decide (x<bytes))then
    ((Pz (IntKind.i64.wrap ((IntKind.i64.wrap ((8:Int)*(IntKind.i64.wrap (bytes-x))))-(8:Int)))).bind fun u=>
    (gn out1 ([(IntKind.u8.wrap (((IntKind.u64.wrap p)).fdiv (2^(min (Int.toNat (IntKind.i64.wrap ((IntKind.i64.wrap ((8:Int)*(IntKind.i64.wrap (bytes-x))))-(8:Int)))) IntKind.u64.bits))))])).bind fun out2=>
    (jF p bytes n) out2 (IntKind.i64.wrap (x+(1:Int))))
    else
    (some out1)

def qi(b:(List Int))(p:Int)(bytes:Int):Option (List Int):=
 (vm (0:Int) (IntKind.i64.wrap ((b.length:Int)+bytes)) (0:Int)).bind fun mk=>
 (gn mk b).bind fun out=>
 jF p bytes ef out (0:Int)

def pi(b:(List Int))(p:Int):Option (List Int):=
 (qi b p (2:Int)).bind fun r=>
 some r

def ei(p:Int)(bytes:Int):Nat→(List Int)→Int→Option (List Int)
  |0,_,_=>none
  |n+1,out1,x=>
    if(decide (x<bytes))then
    ((Pz (IntKind.i64.wrap ((IntKind.i64.wrap ((8:Int)*(IntKind.i64.wrap (bytes-x))))-(8:Int)))).bind fun u=>
    (gn out1 ([(IntKind.u8.wrap ((p).fdiv (2^(min (Int.toNat (IntKind.i64.wrap ((IntKind.i64.wrap ((8:Int)*(IntKind.i64.wrap (bytes-x))))-(8:Int)))) IntKind.u64.bits))))])).bind fun out2=>
    (ei p bytes n) out2 (IntKind.i64.wrap (x+(1:Int))))
    else
    (some out1)

def qg(b:(List Int))(p:Int)(bytes:Int):Option (List Int):=
 (vm (0:Int) (IntKind.i64.wrap ((b.length:Int)+bytes)) (0:Int)).bind fun mk=>
 (gn mk b).bind fun out=>
 ei p bytes ef out (0:Int)

def jd(b:(List Int))(p:Int):Option (List Int):=
 (qg b p (8:Int)).bind fun r=>
 some r

def qY(v:aF):Option ((List Int)×Int):=
  (pb v).bind fun r=>
  if(r !=(0:Int))then
  (some ([],r))
  else
  (if(v.Kind==(1:Int))then
  ((gn ([(IntKind.u8.wrap v.Kind)]) ([(IntKind.u8.wrap v.N)])).bind fun b=>
  some (b,(0:Int)))
  else
  (if(v.Kind==(2:Int))then
  ((jd ([(IntKind.u8.wrap v.Kind)]) (IntKind.u64.wrap v.N)).bind fun r1=>
  some (r1,(0:Int)))
  else
  (if(v.Kind==(3:Int))then
  ((gn ([(IntKind.u8.wrap v.Kind)]) ([(IntKind.u8.wrap (v.S.length:Int))])).bind fun l3=>
  (gn l3 (oV v.S)).bind fun b1=>
  some (b1,(0:Int)))
  else
  (if(v.Kind==(4:Int))then
  ((jd ([(IntKind.u8.wrap v.Kind)]) (IntKind.u64.wrap v.N)).bind fun r2=>
  (jd r2 v.U).bind fun r3=>
  some (r3,(0:Int)))
  else
  (some ([(IntKind.u8.wrap v.Kind)],(0:Int)))))))

def dZ:List bC→aI→Option aI
  |[],ob=>
    some ob
  |e1::tl,ob=>
    (bZ ob ([e1.Tag])).bind fun r1=>
    if(e1.Tag==(2:Int))then
    ((bZ r1 ([e1.Col])).bind fun r2=>
    (dZ tl) r2)
    else
    (if(e1.Tag==(1:Int))then
    ((qY e1.Value).bind fun r3=>
    (gn r1.bytes r3.1).bind fun l1=>
    (dZ tl) ({r1 with bytes:=l1}:aI))
    else
    ((dZ tl) r1))

def ia(w1:aI)(e:bv):Option aI:=
 (pi w1.bytes (IntKind.u16.wrap (e.Nodes.length:Int))).bind fun r=>
 dZ e.Nodes ({w1 with bytes:=r}:aI)

def hZ(w1:aI)(n:ap):Option aI:=
 (gw w1 n.Left).bind fun r=>
 (ia r n.Cond).bind fun r1=>
 some r1

def gp(w1:aI)(n:ap):Option aI:=
 (ia w1 n.Cond).bind fun r=>
 some r

def gz:List fy→aI→Option aI
 |[],ob=>
  some ob
 |e::tl,ob=>
  (bZ ob ([e.Tag])).bind fun r2=>
  (ia r2 e.Arg).bind fun r3=>
  (gz tl) r3

def ed(w1:aI)(n:ap):Option aI:=
 (js w1 n.Keys).bind fun r=>
 (bZ r ([(n.Aggs.length:Int)])).bind fun r1=>
 gz n.Aggs r1

def fP:List bv→aI→Option aI
 |[],ob=>
  some ob
 |e::tl,ob=>
  (ia ob e).bind fun r1=>
  (fP tl) r1

def fY(w1:aI)(n:ap):Option aI:=
 (bZ w1 ([(n.Items.length:Int)])).bind fun r=>
 fP n.Items r

def jE(p:Int)(bytes:Int):Nat→(List Int)→Int→Option (List Int)
  |0,_,_=>none
  |n+1,out1,x=>
    if(decide (x<bytes))then
    ((Pz (IntKind.i64.wrap ((IntKind.i64.wrap ((8:Int)*(IntKind.i64.wrap (bytes-x))))-(8:Int)))).bind fun u=>
    (gn out1 ([(IntKind.u8.wrap (((IntKind.u64.wrap p)).fdiv (2^(min (Int.toNat (IntKind.i64.wrap ((IntKind.i64.wrap ((8:Int)*(IntKind.i64.wrap (bytes-x))))-(8:Int)))) IntKind.u64.bits))))])).bind fun out2=>
    (jE p bytes n) out2 (IntKind.i64.wrap (x+(1:Int))))
    else
    (some out1)

def qh(b:(List Int))(p:Int)(bytes:Int):Option (List Int):=
 (vm (0:Int) (IntKind.i64.wrap ((b.length:Int)+bytes)) (0:Int)).bind fun mk=>
 (gn mk b).bind fun out=>
 jE p bytes ef out (0:Int)

def lS(b:(List Int))(p:Int):Option (List Int):=
 (qh b p (4:Int)).bind fun r=>
 some r

def gy(n:ap):List kq→aI→Option aI
 |[],ob=>
  (lS ob.bytes (IntKind.u32.wrap (IntKind.i64.wrap (n.Limit+(1:Int))))).bind fun r1=>
  some ({ob with bytes:=r1}:aI)
 |e::tl,ob=>
  (bZ ob ([e.Col])).bind fun r2=>
  (gw r2 e.Desc).bind fun r3=>
  (gy n tl) r3

def gM(w1:aI)(n:ap):Option aI:=
 (bZ w1 ([(n.Order.length:Int)])).bind fun r=>
 gy n n.Order r

def ew(nx:aI→Option aI):List ap→aI→Option aI
  |[],ob1=>
    nx ob1
  |e1::tl1,ob1=>
    (bZ ob1 ([e1.Op])).bind fun r4=>
    if((tg (gi (gi (gi (gi (gi (gi (gi (gi (gi ([]:List (Int×(aI→ap→Option (Unit×aI)))) (1:Int) (fun(mc:aI) (mx:ap)=>(fc mc mx).map fun mr=>((),mr))) (9:Int) (fun(mc:aI) (mx:ap)=>(fc mc mx).map fun mr=>((),mr))) (2:Int) (fun(mc:aI) (mx:ap)=>(hZ mc mx).map fun mr=>((),mr))) (3:Int) (fun(mc:aI) (mx:ap)=>(gp mc mx).map fun mr=>((),mr))) (4:Int) (fun(mc:aI) (mx:ap)=>(ed mc mx).map fun mr=>((),mr))) (10:Int) (fun(mc:aI) (mx:ap)=>(ed mc mx).map fun mr=>((),mr))) (11:Int) (fun(mc:aI) (mx:ap)=>(ed mc mx).map fun mr=>((),mr))) (5:Int) (fun(mc:aI) (mx:ap)=>(fY mc mx).map fun mr=>((),mr))) (8:Int) (fun(mc:aI) (mx:ap)=>(gM mc mx).map fun mr=>((),mr))) e1.Op).isSome)then
    ((((tg (gi (gi (gi (gi (gi (gi (gi (gi (gi ([]:List (Int×(aI→ap→Option (Unit×aI)))) (1:Int) (fun(mc:aI) (mx:ap)=>(fc mc mx).map fun mr=>((),mr))) (9:Int) (fun(mc:aI) (mx:ap)=>(fc mc mx).map fun mr=>((),mr))) (2:Int) (fun(mc:aI) (mx:ap)=>(hZ mc mx).map fun mr=>((),mr))) (3:Int) (fun(mc:aI) (mx:ap)=>(gp mc mx).map fun mr=>((),mr))) (4:Int) (fun(mc:aI) (mx:ap)=>(ed mc mx).map fun mr=>((),mr))) (10:Int) (fun(mc:aI) (mx:ap)=>(ed mc mx).map fun mr=>((),mr))) (11:Int) (fun(mc:aI) (mx:ap)=>(ed mc mx).map fun mr=>((),mr))) (5:Int) (fun(mc:aI) (mx:ap)=>(fY mc mx).map fun mr=>((),mr))) (8:Int) (fun(mc:aI) (mx:ap)=>(gM mc mx).map fun mr=>((),mr))) e1.Op).getD (fun _ _=>none)) r4 (e1)).bind fun r5=>
    (ew nx tl1) r5.2)
    else
    ((ew nx tl1) r4)

def fZ:List ez→aI→Option aI
 |[],ob=>
  some ob
 |e::tl,ob=>
  (bZ ob ([e.At,e.Way])).bind fun r1=>
  (js r1 e.Cols).bind fun r2=>
  (bZ r2 ([(e.Nodes.length:Int)])).bind fun r3=>
  ew (fZ tl) e.Nodes r3

def m9(w1:aI)(p:dn):Option aI:=
 (bZ w1 ([(p.Frags.length:Int)])).bind fun r=>
 fZ p.Frags r

def kD:List aF→(List Int)→Option ((List Int)×Int)
  |[],b1=>
    some (b1,(0:Int))
  |e::tl,b1=>
    (qY e).bind fun r=>
    if(r.2 !=(0:Int))then
    (some (([]:List Int),r.2))
    else
    ((gn b1 r.1).bind fun b3=>
    (kD tl) b3)

def uD(b:(List Int))(l1:(List aF)):Option ((List Int)×Int):=
 kD l1 b

def wF(r:(List aF)):Option ((List Int)×Int):=
  if(decide ((16:Int)<(r.length:Int)))then
  (some ([],(3:Int)))
  else
  ((uD ([(IntKind.u8.wrap (r.length:Int))]) r).bind fun r1=>
  some (r1.1,r1.2))

def oM(b:List Int)(at1:Int)(e:Int):Option ((List Int)×Int×Int):=
 if(e !=(0:Int))then
 (some ([],at1,e))
 else
 (some (b,(0:Int),(0:Int)))

def mW:List (List aF)→Nat→(List Int)→Int→Int→Option ((List Int)×Int×Int)
  |[],i,b1,at2,e1=>
    oM b1 at2 e1
  |e2::tl,i,b1,at2,e1=>
    (wF e2).bind fun r1=>
    if(r1.2 !=(0:Int))then
    (oM b1 (i:Int) r1.2)
    else
    ((gn b1 r1.1).bind fun b2=>
    (mW tl) (i+1) b2 at2 r1.2)

def uE(l:(List (List aF))):Option ((List Int)×Int×Int):=
  if(decide ((400:Int)<(l.length:Int)))then
  (some ([],(0:Int),(3:Int)))
  else
  ((pi ([]) (IntKind.u16.wrap (l.length:Int))).bind fun r=>
  mW l 0 r (0:Int) (0:Int))

def ln(w1:aI)(p:co):Option aI:=
  (lS w1.bytes p.Session).bind fun r=>
  (jd r p.Seq).bind fun r1=>
  if(p.Kind==(2:Int))then
  ((jd r1 p.Limit).bind fun r2=>
  some ({({w1 with bytes:=r1}:aI)with bytes:=r2}:aI))
  else
  ((gw ({w1 with bytes:=r1}:aI) p.Batch.End).bind fun r3=>
  if p.Batch.End then
  ((jd r3.bytes p.Batch.Count).bind fun r4=>
  some ({r3 with bytes:=r4}:aI))
  else
  ((uE p.Batch.Rows).bind fun r5=>
  (gn r3.bytes r5.1).bind fun l=>
  some ({r3 with bytes:=l}:aI)))

def jr(m:cu)(r:aI)(x:Bool):Option aI:=
  if x then
  ((bZ r ([m.Frag])).bind fun r3=>
  (ln r3 m.Packet).bind fun r4=>
  some r4)
  else
  (if(m.Kind==(5:Int))then
  ((gw r (m.Err==(300:Int))).bind fun r5=>
  some r5)
  else
  (some r))

def kP(w1:aI)(m:cu):Option aI:=
  (bZ w1 ([m.Kind,m.From,m.To,m.Epoch])).bind fun r=>
  if(m.Kind==(1:Int))then
  ((bZ r ([m.Sites])).bind fun r1=>
  (m9 r1 m.Plan).bind fun r2=>
  some r2)
  else
  (if(m.Kind==(3:Int))then
  (jr m r (m.Kind==(3:Int)))
  else
  (jr m r (m.Kind==(4:Int))))

def ma(m:cu):Option ((List Int)×Int):=
  (sS m).bind fun r=>
  if(!r)then
  (some ([],(330:Int)))
  else
  ((kP (⟨[]⟩:aI) m).bind fun r1=>
  (rU r1.bytes).bind fun r2=>
  if(decide ((20000:Int)<(r2.length:Int)))then
  (some ([],(330:Int)))
  else
  (some (r2,(0:Int))))

def pm(a1:(List Int))(b:(List Int)):Option Bool:=
 some ((zK a1)==(zK b))

def vP:Option Bool:=
  (ma (⟨(2:Int),(2:Int),(0:Int),(3:Int),(0:Int),(0:Int),(⟨[]⟩:dn),(⟨(0:Int),(0:Int),(0:Int),(0:Int),(⟨[],false,(0:Int)⟩:dH)⟩:co),(0:Int)⟩:cu)).bind fun r=>
  (if((r.2==(0:Int))&&((r.1.length:Int)==(8:Int)))then((eP r.1 0 (4:Int)).bind fun y=>
  (pm y ([(2:Int),(2:Int),(0:Int),(3:Int)])).bind fun r1=>
  some r1)else some false).bind fun t=>
  some t

def jq:List bC→Option Bool
 |[]=>
  some false
 |e1::tl=>
  if(decide ((100:Int)<(e1.Value.S.length:Int)))then
  (some true)
  else
  ((jq tl))

def ke(e:bv):Option Bool:=
 if(decide ((100:Int)<(e.Nodes.length:Int)))then
 (some true)
 else
 (jq e.Nodes)

def gL(nx:Option Bool):List fy→Option Bool
 |[]=>
  nx
 |e2::tl2=>
  (ke e2.Arg).bind fun r1=>
  if r1 then
  (some true)
  else
  ((gL nx tl2))

def iD(nx:Option Bool)(e:ap):List bv→Option Bool
 |[]=>
  gL nx e.Aggs
 |e1::tl1=>
  (ke e1).bind fun r2=>
  if r2 then
  (some true)
  else
  ((iD nx e tl1))

def eI:List ap→Option Bool
  |[]=>
    some false
  |e::tl=>
    (if(!(((((decide ((20:Int)<(e.Kinds.length:Int)))||(decide ((20:Int)<(e.Keys.length:Int))))||(decide ((20:Int)<(e.Order.length:Int))))||(decide ((20:Int)<(e.Items.length:Int))))||(decide ((20:Int)<(e.Aggs.length:Int)))))then((ke e.Cond).bind fun r=>
    some r)else some true).bind fun t=>
    if t then
    (some true)
    else
    (iD (eI tl) e e.Items)

def mo(l:(List ap)):Option Bool:=
 if(decide ((70:Int)<(l.length:Int)))then
 (some true)
 else
 (eI l)

def jp:List ez→Option Bool
  |[]=>
    some false
  |e::tl=>
    (if(!(decide ((40:Int)<(e.Cols.length:Int))))then((mo e.Nodes).bind fun r=>
    some r)else some true).bind fun t=>
    if t then
    (some true)
    else
    ((jp tl))

def nK(p:dn):Option Bool:=
 if(decide ((40:Int)<(p.Frags.length:Int)))then
 (some true)
 else
 (jp p.Frags)

def jo(nx:Option Bool):List aF→Option Bool
 |[]=>
  nx
 |e1::tl1=>
  if(decide ((100:Int)<(e1.S.length:Int)))then
  (some true)
  else
  ((jo nx tl1))

def gv:List (List aF)→Option Bool
 |[]=>
  some false
 |e::tl=>
  if(decide ((20:Int)<(e.length:Int)))then
  (some true)
  else
  (jo (gv tl) e)

def nJ(l:(List (List aF))):Option Bool:=
 if(decide ((10:Int)<(l.length:Int)))then
 (some true)
 else
 (gv l)

def qj(m:cu):Option Bool:=
  (nK m.Plan).bind fun r=>
  (if(!r)then((nJ m.Packet.Batch.Rows).bind fun r1=>
  some r1)else some true).bind fun t=>
  some t

def vT(m:cu):Option Int:=
 (ma m).bind fun r=>
 some r.2

def m5(b:(List Int)):List Int→Nat→Option Bool
 |[],i=>
  some true
 |e::tl,i=>
  (gj b (i:Int)).bind fun e1=>
  if(e !=e1)then
  (some false)
  else
  ((m5 b tl) (i+1))

def ly(a1:(List Int))(b:(List Int)):Option Bool:=
 if((a1.length:Int) !=(b.length:Int))then
 (some false)
 else
 (m5 b a1 0)

def oD(b:bv):List bC→Nat→Option Bool
 |[],i=>
  some true
 |e::tl,i=>
  (gj b.Nodes (i:Int)).bind fun e1=>
  if(!decide (e=e1))then
  (some false)
  else
  ((oD b tl) (i+1))

def qb(a1:bv)(b:bv):Option Bool:=
 if((a1.Nodes.length:Int) !=(b.Nodes.length:Int))then
 (some false)
 else
 (oD b a1.Nodes 0)

def n9(b:(List bv)):List bv→Nat→Option Bool
 |[],i=>
  some true
 |e::tl,i=>
  (gj b (i:Int)).bind fun e1=>
  (qb e e1).bind fun r=>
  if(!r)then
  (some false)
  else
  ((n9 b tl) (i+1))

def qB(a1:(List bv))(b:(List bv)):Option Bool:=
 if((a1.length:Int) !=(b.length:Int))then
 (some false)
 else
 (n9 b a1 0)

def jk(a1:ap)(b:ap):Nat→Int→Option Bool
  |0,_=>none
  |n1+1,i1=>
    if(decide (i1<(a1.Order.length:Int)))then
    ((gj a1.Order i1).bind fun e2=>
    (gj b.Order i1).bind fun e3=>
    if(!decide (e2=e3))then
    (some false)
    else
    ((jk a1 b n1) (IntKind.i64.wrap (i1+(1:Int)))))
    else
    ((qb a1.Cond b.Cond).bind fun r3=>
    (if r3 then((qB a1.Items b.Items).bind fun r4=>
    some r4)else some false).bind fun t3=>
    some t3)

def jl(a1:ap)(b:ap):Nat→Int→Option Bool
  |0,_=>none
  |n+1,i=>
    if(decide (i<(a1.Aggs.length:Int)))then
    ((gj a1.Aggs i).bind fun e=>
    (gj b.Aggs i).bind fun e1=>
    (if(!(e.Tag !=e1.Tag))then((qb e.Arg e1.Arg).bind fun r2=>
    some (!r2))else some true).bind fun t2=>
    if t2 then
    (some false)
    else
    ((jl a1 b n) (IntKind.i64.wrap (i+(1:Int)))))
    else
    (jk a1 b ef (0:Int))

def pA(a1:ap)(b:ap):Option Bool:=
  if((((((a1.Op !=b.Op)||(a1.A !=b.A))||(a1.B !=b.B))||(a1.Table !=b.Table))||(a1.Left !=b.Left))||(a1.Limit !=b.Limit))then
  (some false)
  else
  ((if(!(((a1.Aggs.length:Int) !=(b.Aggs.length:Int))||((a1.Order.length:Int) !=(b.Order.length:Int))))then((ly a1.Kinds b.Kinds).bind fun r=>
  some (!r))else some true).bind fun t=>
  (if(!t)then((ly a1.Keys b.Keys).bind fun r1=>
  some (!r1))else some true).bind fun t1=>
  if t1 then
  (some false)
  else
  (jl a1 b ef (0:Int)))

def mI(a1:dh)(b:dh):Nat→Int→Option Bool
  |0,_=>none
  |n+1,i=>
    if(decide (i<(a1.Nodes.length:Int)))then
    ((gj a1.Nodes i).bind fun e=>
    (gj b.Nodes i).bind fun e1=>
    (pA e e1).bind fun r=>
    if(!r)then
    (some false)
    else
    ((mI a1 b n) (IntKind.i64.wrap (i+(1:Int)))))
    else
    (some true)

def um(a1:dh)(b:dh):Option Bool:=
 if((a1.Nodes.length:Int) !=(b.Nodes.length:Int))then
 (some false)
 else
 (mI a1 b ef (0:Int))

def oC(b:dn):List ez→Nat→Option Bool
  |[],i=>
    some true
  |e::tl,i=>
    (gj b.Frags (i:Int)).bind fun e1=>
    (if(!((e.At !=e1.At)||(e.Way !=e1.Way)))then((ly e.Cols e1.Cols).bind fun r=>
    some (!r))else some true).bind fun t=>
    (if(!t)then((um (⟨e.Nodes⟩:dh) (⟨e1.Nodes⟩:dh)).bind fun r1=>
    some (!r1))else some true).bind fun t1=>
    if t1 then
    (some false)
    else
    ((oC b tl) (i+1))

def ul(a1:dn)(b:dn):Option Bool:=
 if((a1.Frags.length:Int) !=(b.Frags.length:Int))then
 (some false)
 else
 (oC b a1.Frags 0)

def oa(b:(List aF)):List aF→Nat→Option Bool
 |[],i=>
  some true
 |e::tl,i=>
  (gj b (i:Int)).bind fun e1=>
  if(!decide (e=e1))then
  (some false)
  else
  ((oa b tl) (i+1))

def qE(a1:(List aF))(b:(List aF)):Option Bool:=
 if((a1.length:Int) !=(b.length:Int))then
 (some false)
 else
 (oa b a1 0)

def qD(b:(List (List aF))):List (List aF)→Nat→Option Bool
 |[],i=>
  some true
 |e::tl,i=>
  (gj b (i:Int)).bind fun e1=>
  (qE e e1).bind fun r=>
  if(!r)then
  (some false)
  else
  ((qD b tl) (i+1))

def ur(a1:(List (List aF)))(b:(List (List aF))):Option Bool:=
 if((a1.length:Int) !=(b.length:Int))then
 (some false)
 else
 (qD b a1 0)

def n6(a1:co)(b:co):Option Bool:=
  if((((a1.Kind !=b.Kind)||(a1.Session !=b.Session))||(a1.Seq !=b.Seq))||(a1.Limit !=b.Limit))then
  (some false)
  else
  ((if((a1.Batch.End==b.Batch.End)&&(a1.Batch.Count==b.Batch.Count))then((ur a1.Batch.Rows b.Batch.Rows).bind fun r=>
  some r)else some false).bind fun t=>
  some t)

def nq(a1:cu)(b:cu):Option Bool:=
  if(((((((a1.Kind !=b.Kind)||(a1.From !=b.From))||(a1.To !=b.To))||(a1.Epoch !=b.Epoch))||(a1.Frag !=b.Frag))||(a1.Sites !=b.Sites))||(a1.Err !=b.Err))then
  (some false)
  else
  ((n6 a1.Packet b.Packet).bind fun r=>
  (if r then((ul a1.Plan b.Plan).bind fun r1=>
  some r1)else some false).bind fun t=>
  some t)

def jT:List Int→(List Int)→Option (List Int)
 |[],out=>
  some out
 |e::tl,out=>
  (gn out ([(IntKind.u8.wrap e)])).bind fun out1=>
  (jT tl) out1

def mz(l:(List Int)):Option (List Int):=
 jT l ([(IntKind.u8.wrap (l.length:Int))])

def ku(width:Int):Nat→(List Int)→Int→Int→Option (List Int)
  |0,_,_,_=>none
  |n2+1,out,n1,i=>
    if(decide (i<width))then
    ((gn ([(IntKind.u8.wrap ((n1).tmod (256:Int)))]) out).bind fun out1=>
    (ku width n2) out1 (IntKind.u64.wrap ((n1).tdiv (256:Int))) (IntKind.i64.wrap (i+(1:Int))))
    else
    (some out)

def fh(n:Int)(width:Int):Option (List Int):=
 ku width ef ([]:List Int) n (0:Int)

def p9(is1:Bool):Option Int:=
 if is1 then
 (some (1:Int))
 else
 (some (0:Int))

def kx(n:Int):Nat→(List Int)→Int→Option (List Int)
  |0,_,_=>none
  |n1+1,out,i=>
    if(decide ((0:Int)≤i))then
    ((Pz (IntKind.i64.wrap ((8:Int)*i))).bind fun u=>
    (gn out ([(IntKind.u8.wrap ((n).fdiv (2^(min (Int.toNat (IntKind.i64.wrap ((8:Int)*i))) IntKind.u64.bits))))])).bind fun out1=>
    (kx n n1) out1 (IntKind.i64.wrap (i-(1:Int))))
    else
    (some out)

def lZ(n:Int):Option (List Int):=
 kx n ef ([]:List Int) (7:Int)

def qR(v:aF):Option (List Int):=
  if(v.Kind==(1:Int))then
  ((gn ([(IntKind.u8.wrap v.Kind)]) ([(IntKind.u8.wrap v.N)])).bind fun out=>
  some out)
  else
  (if(v.Kind==(2:Int))then
  ((lZ (IntKind.u64.wrap v.N)).bind fun r=>
  (gn ([(IntKind.u8.wrap v.Kind)]) r).bind fun out1=>
  some out1)
  else
  (if(v.Kind==(3:Int))then
  ((gn ([(IntKind.u8.wrap v.Kind)]) ([(IntKind.u8.wrap (v.S.length:Int))])).bind fun l4=>
  (gn l4 (oV v.S)).bind fun out2=>
  some out2)
  else
  (if(v.Kind==(4:Int))then
  ((lZ (IntKind.u64.wrap v.N)).bind fun r1=>
  (gn ([(IntKind.u8.wrap v.Kind)]) r1).bind fun l6=>
  (lZ v.U).bind fun r2=>
  (gn l6 r2).bind fun out3=>
  some out3)
  else
  (some ([(IntKind.u8.wrap v.Kind)])))))

def qz(nx:(List Int)→Int→Option (List Int))(i:Int)(e1:bC)(out2:List Int):Option (List Int):=
  if(e1.Tag==(1:Int))then
  ((qR e1.Value).bind fun r1=>
  (gn out2 r1).bind fun out3=>
  nx out3 (IntKind.i64.wrap (i+(1:Int))))
  else
  (nx out2 (IntKind.i64.wrap (i+(1:Int))))

def iQ(e:bv):Nat→(List Int)→Int→Option (List Int)
  |0,_,_=>none
  |n+1,out,i=>
    if(decide (i<(e.Nodes.length:Int)))then
    ((gj e.Nodes i).bind fun e1=>
    (gn out ([(IntKind.u8.wrap e1.Tag)])).bind fun out1=>
    if(e1.Tag==(2:Int))then
    ((gn out1 ([(IntKind.u8.wrap e1.Col)])).bind fun out4=>
    qz (iQ e n) i e1 out4)
    else
    (qz (iQ e n) i e1 out1))
    else
    (some out)

def o5(e:bv):Option (List Int):=
 (fh (IntKind.u64.wrap (e.Nodes.length:Int)) (2:Int)).bind fun r=>
 iQ e ef r (0:Int)

def mD(n:ap):Nat→(List Int)→Int→Option (List Int)
  |0,_,_=>none
  |n1+1,out7,i=>
    if(decide (i<(n.Aggs.length:Int)))then
    ((gj n.Aggs i).bind fun e=>
    (gn out7 ([(IntKind.u8.wrap e.Tag)])).bind fun out8=>
    (o5 e.Arg).bind fun r5=>
    (gn out8 r5).bind fun out9=>
    (mD n n1) out9 (IntKind.i64.wrap (i+(1:Int))))
    else
    (some out7)

def mC(n:ap):Nat→(List Int)→Int→Option (List Int)
  |0,_,_=>none
  |n2+1,out11,i1=>
    if(decide (i1<(n.Items.length:Int)))then
    ((gj n.Items i1).bind fun e1=>
    (o5 e1).bind fun r6=>
    (gn out11 r6).bind fun out12=>
    (mC n n2) out12 (IntKind.i64.wrap (i1+(1:Int))))
    else
    (some out11)

def mB(n:ap):Nat→(List Int)→Int→Option (List Int)
  |0,_,_=>none
  |n3+1,out14,i2=>
    if(decide (i2<(n.Order.length:Int)))then
    ((gj n.Order i2).bind fun e2=>
    (p9 e2.Desc).bind fun r7=>
    (gn out14 ([(IntKind.u8.wrap e2.Col),r7])).bind fun out15=>
    (mB n n3) out15 (IntKind.i64.wrap (i2+(1:Int))))
    else
    ((fh (IntKind.u64.wrap (IntKind.i64.wrap (n.Limit+(1:Int)))) (4:Int)).bind fun r8=>
    (gn out14 r8).bind fun out16=>
    some out16)

def k5(n:ap)(x1:Bool):Option (List Int):=
  if x1 then
  ((mz n.Keys).bind fun r4=>
  (gn ([(IntKind.u8.wrap n.Op)]) r4).bind fun out5=>
  (gn out5 ([(IntKind.u8.wrap (n.Aggs.length:Int))])).bind fun out6=>
  mD n ef out6 (0:Int))
  else
  (if(n.Op==(5:Int))then
  ((gn ([(IntKind.u8.wrap n.Op)]) ([(IntKind.u8.wrap (n.Items.length:Int))])).bind fun out10=>
  mC n ef out10 (0:Int))
  else
  (if(n.Op==(8:Int))then
  ((gn ([(IntKind.u8.wrap n.Op)]) ([(IntKind.u8.wrap (n.Order.length:Int))])).bind fun out13=>
  mB n ef out13 (0:Int))
  else
  (some ([(IntKind.u8.wrap n.Op)]))))

def mE(n:ap)(x:Bool):Option (List Int):=
  if x then
  ((gn ([(IntKind.u8.wrap n.Op)]) ([(IntKind.u8.wrap n.Table)])).bind fun out=>
  (mz n.Kinds).bind fun r=>
  (gn out r).bind fun out1=>
  some out1)
  else
  (if(n.Op==(2:Int))then
  ((p9 n.Left).bind fun r1=>
  (gn ([(IntKind.u8.wrap n.Op)]) ([r1])).bind fun out2=>
  (o5 n.Cond).bind fun r2=>
  (gn out2 r2).bind fun out3=>
  some out3)
  else
  (if(n.Op==(3:Int))then
  ((o5 n.Cond).bind fun r3=>
  (gn ([(IntKind.u8.wrap n.Op)]) r3).bind fun out4=>
  some out4)
  else
  (if(n.Op==(4:Int))then
  (k5 n (n.Op==(4:Int)))
  else
  (if(n.Op==(10:Int))then
  (k5 n (n.Op==(10:Int)))
  else
  (k5 n (n.Op==(11:Int)))))))

def uh(n:ap):Option (List Int):=
 if(n.Op==(1:Int))then
 (mE n (n.Op==(1:Int)))
 else
 (mE n (n.Op==(9:Int)))

def mA(nx:(List Int)→Int→Option (List Int))(i:Int)(e:ez):Nat→(List Int)→Int→Option (List Int)
  |0,_,_=>none
  |n1+1,out4,k=>
    if(decide (k<(e.Nodes.length:Int)))then
    ((gj e.Nodes k).bind fun e1=>
    (uh e1).bind fun r1=>
    (gn out4 r1).bind fun out5=>
    (mA nx i e n1) out5 (IntKind.i64.wrap (k+(1:Int))))
    else
    (nx out4 (IntKind.i64.wrap (i+(1:Int))))

def kZ(p:dn):Nat→(List Int)→Int→Option (List Int)
  |0,_,_=>none
  |n+1,out,i=>
    if(decide (i<(p.Frags.length:Int)))then
    ((gj p.Frags i).bind fun e=>
    (gn out ([(IntKind.u8.wrap e.At),(IntKind.u8.wrap e.Way)])).bind fun out1=>
    (mz e.Cols).bind fun r=>
    (gn out1 r).bind fun out2=>
    (gn out2 ([(IntKind.u8.wrap (e.Nodes.length:Int))])).bind fun out3=>
    mA (kZ p n) i e ef out3 (0:Int))
    else
    (some out)

def xm(p:dn):Option (List Int):=
 kZ p ef ([(IntKind.u8.wrap (p.Frags.length:Int))]) (0:Int)

def kJ(v:aF):Option Bool:=
  if(v.Kind==(0:Int))then
  (some (decide (v=(⟨(0:Int),(0:Int),(0:Int),[]⟩:aF))))
  else
  (if(v.Kind==(1:Int))then
  (some (((v.U==(0:Int))&&(v.S==([])))&&((v.N==(0:Int))||(v.N==(1:Int)))))
  else
  (if(v.Kind==(2:Int))then
  (some ((v.U==(0:Int))&&(v.S==([]))))
  else
  (if(v.Kind==(3:Int))then
  (some (((v.N==(0:Int))&&(v.U==(0:Int)))&&(decide ((v.S.length:Int)≤(40:Int)))))
  else
  (some ((v.Kind==(4:Int))&&(v.S==([])))))))

def oc:List aF→(List Int)→Option ((List Int)×Int)
  |[],out=>
    some (out,(0:Int))
  |e::tl,out=>
    (kJ e).bind fun r1=>
    if(!r1)then
    (some ([],(120:Int)))
    else
    ((qR e).bind fun r2=>
    (gn out r2).bind fun out1=>
    (oc tl) out1)

def wm(r:(List aF)):Option ((List Int)×Int):=
 if(decide ((16:Int)<(r.length:Int)))then
 (some ([],(3:Int)))
 else
 (oc r ([(IntKind.u8.wrap (r.length:Int))]))

def mL:List (List aF)→Nat→(List Int)→Option ((List Int)×Int×Int)
  |[],i,out=>
    some (out,(0:Int),(0:Int))
  |e::tl,i,out=>
    (wm e).bind fun r=>
    if(r.2 !=(0:Int))then
    (some ([],(i:Int),r.2))
    else
    ((gn out r.1).bind fun out1=>
    (mL tl) (i+1) out1)

def ut(l:(List (List aF))):Option ((List Int)×Int×Int):=
 if(decide ((400:Int)<(l.length:Int)))then
 (some ([],(0:Int),(3:Int)))
 else
 (mL l 0 ([(IntKind.u8.wrap (IntKind.i64.wrap (((l.length:Int)).tdiv (256:Int)))),(IntKind.u8.wrap (((l.length:Int)).tmod (256:Int)))]))

def rx(register1:Int):Option Int:=
 some register1

def wn(register:Int)(one:Bool):Option Int:=
 if((((register).tmod (2:Int))==(1:Int)) !=one)then
 (rx (oB .xor .u32 (IntKind.u32.wrap ((register).tdiv (2:Int))) (2197175160:Int)))
 else
 (rx (IntKind.u32.wrap ((register).tdiv (2:Int))))

def lz(nx:Int→Option Int):Nat→Int→Int→Option Int
 |0,register1,c=>
  nx register1
 |k1+1,register1,c=>
  (wn register1 (((c).tmod (2:Int))==(1:Int))).bind fun r=>
  (lz nx k1) r (IntKind.u8.wrap ((c).tdiv (2:Int)))

def kb:List Int→Int→Option Int
 |[],register=>
  some (IntKind.u32.wrap ((4294967295:Int)-register))
 |e::tl,register=>
  lz (kb tl) 8 register e

def vD(b:(List Int)):Option Int:=
 kb b (4294967295:Int)

def uu(a1:(List Int))(b:(List Int)):Option (List Int):=
 (gn ([]:List Int) a1).bind fun l1=>
 (gn l1 b).bind fun x=>
 some x

def mM(b:(List Int)):Nat→(List Int)→Int→Option (List Int)
 |0,last,n=>
  (uu b last).bind fun r1=>
  some r1
 |k1+1,last,n=>
  (gn last ([(IntKind.u8.wrap ((n).tmod (256:Int)))])).bind fun last1=>
  (mM b k1) last1 (IntKind.u32.wrap ((n).tdiv (256:Int)))

def la(b:(List Int)):Option (List Int):=
 (vD b).bind fun r=>
 mM b 4 ([]:List Int) r

def nt(m:cu):Option (List Int):=
  if(m.Kind==(1:Int))then
  ((gn ([(IntKind.u8.wrap m.Kind),(IntKind.u8.wrap m.From),(IntKind.u8.wrap m.To),(IntKind.u8.wrap m.Epoch)]) ([(IntKind.u8.wrap m.Sites)])).bind fun out=>
  (xm m.Plan).bind fun r=>
  (gn out r).bind fun out1=>
  (la out1).bind fun r1=>
  some r1)
  else
  (if(m.Kind==(3:Int))then
  ((gn ([(IntKind.u8.wrap m.Kind),(IntKind.u8.wrap m.From),(IntKind.u8.wrap m.To),(IntKind.u8.wrap m.Epoch)]) ([(IntKind.u8.wrap m.Frag)])).bind fun out2=>
  (fh (IntKind.u64.wrap m.Packet.Session) (4:Int)).bind fun r2=>
  (gn out2 r2).bind fun out3=>
  (fh m.Packet.Seq (8:Int)).bind fun r3=>
  (gn out3 r3).bind fun out4=>
  (p9 m.Packet.Batch.End).bind fun r4=>
  (gn out4 ([r4])).bind fun out5=>
  if m.Packet.Batch.End then
  ((fh m.Packet.Batch.Count (8:Int)).bind fun r5=>
  (gn out5 r5).bind fun out6=>
  (la out6).bind fun r6=>
  some r6)
  else
  ((ut m.Packet.Batch.Rows).bind fun r7=>
  (gn out5 r7.1).bind fun out7=>
  (la out7).bind fun r8=>
  some r8))
  else
  (if(m.Kind==(4:Int))then
  ((gn ([(IntKind.u8.wrap m.Kind),(IntKind.u8.wrap m.From),(IntKind.u8.wrap m.To),(IntKind.u8.wrap m.Epoch)]) ([(IntKind.u8.wrap m.Frag)])).bind fun out8=>
  (fh (IntKind.u64.wrap m.Packet.Session) (4:Int)).bind fun r9=>
  (gn out8 r9).bind fun out9=>
  (fh m.Packet.Seq (8:Int)).bind fun r10=>
  (gn out9 r10).bind fun out10=>
  (fh m.Packet.Limit (8:Int)).bind fun r11=>
  (gn out10 r11).bind fun out11=>
  (la out11).bind fun r12=>
  some r12)
  else
  (if(m.Kind==(5:Int))then
  ((p9 (m.Err==(300:Int))).bind fun r13=>
  (gn ([(IntKind.u8.wrap m.Kind),(IntKind.u8.wrap m.From),(IntKind.u8.wrap m.To),(IntKind.u8.wrap m.Epoch)]) ([r13])).bind fun out12=>
  (la out12).bind fun r14=>
  some r14)
  else
  ((la ([(IntKind.u8.wrap m.Kind),(IntKind.u8.wrap m.From),(IntKind.u8.wrap m.To),(IntKind.u8.wrap m.Epoch)])).bind fun r15=>
  some r15))))

def iZ(x1:Bool):Option Int:=
 if x1 then
 (some (1:Int))
 else
 (some (-1:Int))

def nC(op:Int)(x:Bool):Option Int:=
  if x then
  (some (2:Int))
  else
  (if(op==(3:Int))then
  (iZ (op==(3:Int)))
  else
  (if(op==(4:Int))then
  (iZ (op==(4:Int)))
  else
  (if(op==(5:Int))then
  (iZ (op==(5:Int)))
  else
  (if(op==(6:Int))then
  (iZ (op==(6:Int)))
  else
  (iZ (op==(8:Int)))))))

def pd(op:Int):Option Int:=
  if(op==(1:Int))then
  (some (0:Int))
  else
  (if(op==(2:Int))then
  (nC op (op==(2:Int)))
  else
  (nC op (op==(7:Int))))

def pz(op:Int)(x:Bool):Option Int:=
  if x then
  (some (1:Int))
  else
  ((pd op).bind fun r=>
  some r)

def sJ(op:Int):Option Int:=
  if(op==(9:Int))then
  (some (0:Int))
  else
  (if(op==(10:Int))then
  (pz op (op==(10:Int)))
  else
  (pz op (op==(11:Int))))

def fJ:Nat→(List ap)→Int→Option Int
  |0,_,_=>none
  |fu+1,l,at1=>
    if((decide (at1<(0:Int)))||(decide ((l.length:Int)≤at1)))then
    (some (0:Int))
    else
    ((gj l at1).bind fun e=>
    (sJ e.Op).bind fun r=>
    if(r==(0:Int))then
    (if((e.A==(-1:Int))&&(e.B==(-1:Int)))then
    (some (1:Int))
    else
    (some (0:Int)))
    else
    (if(r==(1:Int))then
    (((fJ fu) l (IntKind.i64.wrap (at1-(1:Int)))).bind fun r1=>
    if(((e.A==(IntKind.i64.wrap (at1-(1:Int))))&&(e.B==(-1:Int)))&&(decide ((0:Int)<r1)))then
    (some (IntKind.i64.wrap (r1+(1:Int))))
    else
    (some (0:Int)))
    else
    (if(r==(2:Int))then
    (((fJ fu) l (IntKind.i64.wrap (at1-(1:Int)))).bind fun r2=>
    if(((r2==(0:Int))||(e.B !=(IntKind.i64.wrap (at1-(1:Int)))))||(e.A !=(IntKind.i64.wrap ((IntKind.i64.wrap (at1-(1:Int)))-r2))))then
    (some (0:Int))
    else
    (((fJ fu) l e.A).bind fun r3=>
    if(decide ((0:Int)<r3))then
    (some (IntKind.i64.wrap ((IntKind.i64.wrap (r3+r2))+(1:Int))))
    else
    (some (0:Int))))
    else
    (some (0:Int)))))

def rZ(l:(List ap))(at1:Int):Option Int:=
 fJ ef l at1

def n8(n:ap):Option Bool:=
  if((n.Op !=(1:Int))&&((n.Table !=(0:Int))||(decide ((0:Int)<(n.Kinds.length:Int)))))then
  (some false)
  else
  (if(((n.Op !=(2:Int))&&n.Left)||(((n.Op !=(2:Int))&&(n.Op !=(3:Int)))&&(decide ((0:Int)<(n.Cond.Nodes.length:Int)))))then
  (some false)
  else
  (if(((n.Op !=(4:Int))&&((decide ((0:Int)<(n.Keys.length:Int)))||(decide ((0:Int)<(n.Aggs.length:Int)))))||((n.Op !=(5:Int))&&(decide ((0:Int)<(n.Items.length:Int)))))then
  (some false)
  else
  (some ((n.Op==(8:Int))||(((n.Order.length:Int)==(0:Int))&&(n.Limit==(0:Int)))))))

def lY(n:ap)(x:Bool):Option Bool:=
  if x then
  ((n8 (ap.mk (4:Int) n.A n.B n.Table n.Kinds n.Left n.Cond n.Keys n.Aggs n.Items n.Order n.Limit)).bind fun r1=>
  some r1)
  else
  ((n8 n).bind fun r2=>
  some r2)

def n7(n:ap):Option Bool:=
  if(n.Op==(9:Int))then
  ((n8 (ap.mk (1:Int) n.A n.B n.Table n.Kinds n.Left n.Cond n.Keys n.Aggs n.Items n.Order n.Limit)).bind fun r=>
  some r)
  else
  (if(n.Op==(10:Int))then
  (lY n (n.Op==(10:Int)))
  else
  (lY n (n.Op==(11:Int))))

def lw(n:ap):List Int→Bool→Option ((List Int)×Bool)
 |[],ok=>
  some (n.Kinds,ok)
 |e::tl,ok=>
  (lw n tl) ((ok&&(decide ((0:Int)≤e)))&&(decide (e≤(4:Int))))

def sI(n:ap):Option ((List Int)×Bool):=
 lw n n.Kinds ((((decide ((0:Int)≤n.Table))&&(decide (n.Table<(30:Int))))&&(decide ((1:Int)≤(n.Kinds.length:Int))))&&(decide ((n.Kinds.length:Int)≤(16:Int))))

def qA:List Int→Option Bool
 |[]=>
  some false
 |e::tl=>
  if(e==(4:Int))then
  (some true)
  else
  ((qA tl))

def uk(kinds:(List Int)):Option Bool:=
 qA kinds

def s9(nx1:bv→Option bv)(out1:bv)(n1:bC):Option bv:=
 (gn out1.Nodes ([n1])).bind fun l5=>
 nx1 ({out1 with Nodes:=l5}:bv)

def ta(out:bv)(nx1:bv→Option bv)(out1:bv)(n:bC):Option bv:=
 if(decide ((0:Int)≤n.R))then
 (s9 nx1 out1 (bC.mk n.Tag n.L (IntKind.i64.wrap (n.R+(out.Nodes.length:Int))) n.Col n.Value))
 else
 (s9 nx1 out1 n)

def mJ(nx:Nat→bC→bv→Option bv)(i:Nat)(root1:bC)(out:bv):List bC→bv→Option bv
 |[],out1=>
  if((i:Int)==(0:Int))then
  (nx (i+1) (bC.mk root1.Tag (IntKind.i64.wrap ((out1.Nodes.length:Int)-(1:Int))) root1.R root1.Col root1.Value) out1)
  else
  (nx (i+1) (bC.mk root1.Tag root1.L (IntKind.i64.wrap ((out1.Nodes.length:Int)-(1:Int))) root1.Col root1.Value) out1)
 |e1::tl1,out1=>
  if(decide ((0:Int)≤e1.L))then
  (ta out (mJ nx i root1 out tl1) out1 (bC.mk e1.Tag (IntKind.i64.wrap (e1.L+(out.Nodes.length:Int))) e1.R e1.Col e1.Value))
  else
  (ta out (mJ nx i root1 out tl1) out1 e1)

def k8:List bv→Nat→bC→bv→Option bv
 |[],i,root1,out=>
  (gn out.Nodes ([root1])).bind fun l2=>
  some ({out with Nodes:=l2}:bv)
 |e::tl,i,root1,out=>
  mJ (k8 tl) i root1 out e.Nodes out

def uq(root:bC)(l:(List bv)):Option bv:=
 k8 l 0 (bC.mk root.Tag (-1:Int) (-1:Int) root.Col root.Value) ({(⟨[]⟩:bv)with Nodes:=([]:List bC)}:bv)

def dC:Nat→dh→Int→Option Int
  |0,_,_=>none
  |fu+1,l,at1=>
    if((decide (at1<(0:Int)))||(decide ((l.Nodes.length:Int)≤at1)))then
    (some (0:Int))
    else
    ((gj l.Nodes at1).bind fun e=>
    (pd e.Op).bind fun r=>
    if(r==(0:Int))then
    (if((e.A==(-1:Int))&&(e.B==(-1:Int)))then
    (some (1:Int))
    else
    (some (0:Int)))
    else
    (if(r==(1:Int))then
    (if((e.A==(IntKind.i64.wrap (at1-(1:Int))))&&(e.B==(-1:Int)))then
    (((dC fu) l e.A).bind fun r1=>
    if(decide ((0:Int)<r1))then
    (some (IntKind.i64.wrap (r1+(1:Int))))
    else
    (some (0:Int)))
    else
    (some (0:Int)))
    else
    (if(r==(2:Int))then
    (if(e.B==(IntKind.i64.wrap (at1-(1:Int))))then
    (((dC fu) l e.B).bind fun r2=>
    if((decide ((0:Int)<r2))&&(e.A==(IntKind.i64.wrap (e.B-r2))))then
    (((dC fu) l e.A).bind fun r3=>
    if(decide ((0:Int)<r3))then
    (some (IntKind.i64.wrap ((IntKind.i64.wrap (r3+r2))+(1:Int))))
    else
    (some (0:Int)))
    else
    (some (0:Int)))
    else
    (some (0:Int)))
    else
    (some (0:Int)))))

def xo(l:dh)(at1:Int):Option Int:=
 dC ef l at1

def vA(tag:Int):Option Int:=
  if((decide (tag<(1:Int)))||(decide ((23:Int)<tag)))then
  (some (-1:Int))
  else
  (if(decide (tag≤(3:Int)))then
  (some (0:Int))
  else
  (if(decide (tag≤(11:Int)))then
  (some (1:Int))
  else
  (some (2:Int))))

def sL(tag:Int):Option Int:=
  if((tag==(3:Int))||((decide ((8:Int)≤tag))&&(decide (tag≤(11:Int)))))then
  (some (-1:Int))
  else
  ((vA tag).bind fun r=>
  some r)

def sO(v:aF):Option Bool:=
 (kJ v).bind fun r=>
 some (r&&(v.Kind !=(4:Int)))

def jK(n:bC):Option Bool:=
  if(n.Tag==(1:Int))then
  ((sO n.Value).bind fun r=>
  some (r&&(n.Col==(0:Int))))
  else
  (if(n.Tag==(2:Int))then
  (some (((decide (n.Value=(⟨(0:Int),(0:Int),(0:Int),[]⟩:aF)))&&(decide ((0:Int)≤n.Col)))&&(decide (n.Col<(16:Int)))))
  else
  (some ((decide (n.Value=(⟨(0:Int),(0:Int),(0:Int),[]⟩:aF)))&&(n.Col==(0:Int)))))

def hT:Nat→bv→Int→Option Int
  |0,_,_=>none
  |fu+1,e,place=>
    if((decide (place<(0:Int)))||(decide ((e.Nodes.length:Int)≤place)))then
    (some (0:Int))
    else
    ((gj e.Nodes place).bind fun e1=>
    (sL e1.Tag).bind fun r=>
    (if(!(decide (r<(0:Int))))then((jK e1).bind fun r1=>
    some (!r1))else some true).bind fun t=>
    if t then
    (some (0:Int))
    else
    (if(r==(0:Int))then
    (if((e1.L !=(-1:Int))||(e1.R !=(-1:Int)))then
    (some (0:Int))
    else
    (some (1:Int)))
    else
    (((hT fu) e (IntKind.i64.wrap (place-(1:Int)))).bind fun r2=>
    if(r2==(0:Int))then
    (some (0:Int))
    else
    (if(r==(1:Int))then
    (if((e1.L !=(IntKind.i64.wrap (place-(1:Int))))||(e1.R !=(-1:Int)))then
    (some (0:Int))
    else
    (some (IntKind.i64.wrap (r2+(1:Int)))))
    else
    (((hT fu) e (IntKind.i64.wrap ((IntKind.i64.wrap (place-(1:Int)))-r2))).bind fun r3=>
    if(((r3==(0:Int))||(e1.R !=(IntKind.i64.wrap (place-(1:Int)))))||(e1.L !=(IntKind.i64.wrap ((IntKind.i64.wrap (place-(1:Int)))-r2))))then
    (some (0:Int))
    else
    (some (IntKind.i64.wrap ((IntKind.i64.wrap (r3+r2))+(1:Int)))))))))

def xp(e:bv)(place:Int):Option Int:=
 hT ef e place

def sK(e:bv):Option Bool:=
  (if((decide ((1:Int)≤(e.Nodes.length:Int)))&&(decide ((e.Nodes.length:Int)≤(1000:Int))))then((xp e (IntKind.i64.wrap ((e.Nodes.length:Int)-(1:Int)))).bind fun r=>
  some (r==(e.Nodes.length:Int)))else some false).bind fun t=>
  some t

def o6(k:Int)(want:Int):Option Bool:=
 some ((k==want)||(k==(0:Int)))

def qa(tag:Int)(l:Int)(r:Int):Option (Int×Bool):=
  if((tag==(4:Int))||((decide ((12:Int)≤tag))&&(decide (tag≤(15:Int)))))then
  ((o6 l (2:Int)).bind fun r1=>
  (if r1 then((o6 r (2:Int)).bind fun r2=>
  some r2)else some false).bind fun t=>
  some ((2:Int),t))
  else
  (if((tag==(5:Int))||(decide ((22:Int)≤tag)))then
  ((o6 l (1:Int)).bind fun r3=>
  (if r3 then((o6 r (1:Int)).bind fun r4=>
  some r4)else some false).bind fun t1=>
  some ((1:Int),t1))
  else
  (if((tag==(6:Int))||(tag==(7:Int)))then
  (some ((1:Int),true))
  else
  (some ((1:Int),(((l==r)||(l==(0:Int)))||(r==(0:Int)))))))

def oF(nx2:(List Int)→Option (Int×Int))(e3:bC)(own:List Int)(e6:Int)(r1:Int):Option (Int×Int):=
  (qa e3.Tag e6 r1).bind fun r2=>
  if(!r2.2)then
  (some ((0:Int),(201:Int)))
  else
  ((gn own ([r2.1])).bind fun own3=>
  nx2 own3)

def dm(kinds:(List Int)):List bC→(List Int)→Option (Int×Int)
  |[],own=>
    (gj own (IntKind.i64.wrap ((own.length:Int)-(1:Int)))).bind fun e4=>
    some (e4,(0:Int))
  |e3::tl2,own=>
    if(e3.Tag==(1:Int))then
    ((gn own ([e3.Value.Kind])).bind fun own1=>
    (dm kinds tl2) own1)
    else
    (if(e3.Tag==(2:Int))then
    ((gj kinds e3.Col).bind fun e5=>
    (gn own ([e5])).bind fun own2=>
    (dm kinds tl2) own2)
    else
    ((gj own e3.L).bind fun e6=>
    if(decide ((0:Int)≤e3.R))then
    ((gj own e3.R).bind fun e7=>
    oF (dm kinds tl2) e3 own e6 e7)
    else
    (oF (dm kinds tl2) e3 own e6 (0:Int))))

def mK(e:bv)(kinds:(List Int)):List bC→Option (Int×Int)
 |[]=>
  dm kinds e.Nodes ([]:List Int)
 |e2::tl1=>
  if((e2.Tag==(2:Int))&&(decide ((kinds.length:Int)≤e2.Col)))then
  (some ((0:Int),(2:Int)))
  else
  ((mK e kinds tl1))

def oE(e:bv)(kinds:(List Int)):List Int→Option (Int×Int)
 |[]=>
  mK e kinds e.Nodes
 |e1::tl=>
  if((decide (e1<(0:Int)))||(decide ((3:Int)<e1)))then
  (some ((0:Int),(2:Int)))
  else
  ((oE e kinds tl))

def qc(e:bv)(kinds:(List Int)):Option (Int×Int):=
 (sK e).bind fun r=>
 if(!r)then
 (some ((0:Int),(200:Int)))
 else
 (oE e kinds kinds)

def qQ(e:bv)(kinds:(List Int)):Option Bool:=
 (qc e kinds).bind fun r=>
 some ((r.2==(0:Int))&&((r.1==(0:Int))||(r.1==(1:Int))))

def kw(a1:fy)(kinds:(List Int)):Option (Int×Bool):=
  if(a1.Tag==(1:Int))then
  (some ((2:Int),((a1.Arg.Nodes.length:Int)==(0:Int))))
  else
  ((qc a1.Arg kinds).bind fun r=>
  if(((decide (a1.Tag<(1:Int)))||(decide ((5:Int)<a1.Tag)))||(r.2 !=(0:Int)))then
  (some ((0:Int),false))
  else
  (if(((a1.Tag==(3:Int))&&(r.1 !=(2:Int)))&&(r.1 !=(0:Int)))then
  (some ((0:Int),false))
  else
  (if(decide ((4:Int)≤a1.Tag))then
  (some (r.1,true))
  else
  (some ((2:Int),true)))))

def hM(n:ap):Nat→Bool→Int→Option ((List Int)×Bool)
  |0,_,_=>none
  |n1+1,ok,i=>
    if(decide (i<(n.Kinds.length:Int)))then
    ((if ok then((gj n.Kinds i).bind fun e=>
    some (decide ((1:Int)≤e)))else some false).bind fun t=>
    (if t then((gj n.Kinds i).bind fun e1=>
    some (decide (e1≤(3:Int))))else some false).bind fun t1=>
    (hM n n1) t1 (IntKind.i64.wrap (i+(1:Int))))
    else
    (some (n.Kinds,((((ok&&(decide ((0:Int)≤n.Table)))&&(decide (n.Table≤(3:Int))))&&(decide ((1:Int)≤(n.Kinds.length:Int))))&&(decide ((n.Kinds.length:Int)≤(4:Int))))))

def j8(n:ap)(a1:(List Int)):Nat→(List Int)→Bool→Int→Option ((List Int)×Bool)
  |0,_,_,_=>none
  |n3+1,out3,ok1,i2=>
    if(decide (i2<(n.Aggs.length:Int)))then
    ((gj n.Aggs i2).bind fun e4=>
    (kw e4 a1).bind fun r2=>
    (gn out3 ([r2.1])).bind fun out4=>
    (j8 n a1 n3) out4 (ok1&&r2.2) (IntKind.i64.wrap (i2+(1:Int))))
    else
    (some (out3,(((ok1&&(decide ((n.Keys.length:Int)≤(3:Int))))&&(decide ((n.Aggs.length:Int)≤(12:Int))))&&(decide ((0:Int)<(out3.length:Int))))))

def j9(n:ap)(a1:(List Int)):Nat→(List Int)→Int→Option ((List Int)×Bool)
  |0,_,_=>none
  |n2+1,out1,i1=>
    if(decide (i1<(n.Keys.length:Int)))then
    ((gj n.Keys i1).bind fun e2=>
    if((decide (e2<(0:Int)))||(decide ((a1.length:Int)≤e2)))then
    (some ([],false))
    else
    ((gj a1 e2).bind fun e3=>
    (gn out1 ([e3])).bind fun out2=>
    (j9 n a1 n2) out2 (IntKind.i64.wrap (i1+(1:Int)))))
    else
    (j8 n a1 ef out1 true (0:Int))

def j7(n:ap)(a1:(List Int)):Nat→(List Int)→Bool→Int→Option ((List Int)×Bool)
  |0,_,_,_=>none
  |n4+1,out5,ok2,i3=>
    if(decide (i3<(n.Items.length:Int)))then
    ((gj n.Items i3).bind fun e5=>
    (qc e5 a1).bind fun r3=>
    (gn out5 ([r3.1])).bind fun out6=>
    (j7 n a1 n4) out6 (ok2&&(r3.2==(0:Int))) (IntKind.i64.wrap (i3+(1:Int))))
    else
    (some (out5,((ok2&&(decide ((1:Int)≤(out5.length:Int))))&&(decide ((out5.length:Int)≤(16:Int))))))

def nA(b:(List Int))(nx4:Nat→(List Int)→Bool→Option ((List Int)×Bool))(i4:Nat)(out7:List Int)(ok3:Bool)(k:Int):Option ((List Int)×Bool):=
  (gn out7 ([k])).bind fun out8=>
  (if ok3 then((gj b (i4:Int)).bind fun e7=>
  (if(!(e7==k))then((gj b (i4:Int)).bind fun e8=>
  some (e8==(0:Int)))else some true).bind fun t3=>
  some t3)else some false).bind fun t2=>
  nx4 (i4+1) out8 t2

def hE(b:(List Int)):List Int→Nat→(List Int)→Bool→Option ((List Int)×Bool)
  |[],i4,out7,ok3=>
    some (out7,ok3)
  |e6::tl,i4,out7,ok3=>
    if(e6==(0:Int))then
    ((gj b (i4:Int)).bind fun e9=>
    nA b (hE b tl) i4 out7 ok3 e9)
    else
    (nA b (hE b tl) i4 out7 ok3 e6)

def hD(n:ap)(a1:(List Int)):Nat→Bool→Int→Option ((List Int)×Bool)
  |0,_,_=>none
  |n5+1,ok4,i5=>
    if(decide (i5<(n.Order.length:Int)))then
    ((if ok4 then((gj n.Order i5).bind fun e10=>
    some (decide ((0:Int)≤e10.Col)))else some false).bind fun t4=>
    (if t4 then((gj n.Order i5).bind fun e11=>
    some (decide (e11.Col<(a1.length:Int))))else some false).bind fun t5=>
    (hD n a1 n5) t5 (IntKind.i64.wrap (i5+(1:Int))))
    else
    (some (a1,(((ok4&&(decide ((n.Order.length:Int)≤(3:Int))))&&(decide ((-1:Int)≤n.Limit)))&&(decide (n.Limit≤(2147483647:Int))))))

def cD(n:ap)(a1:(List Int))(b:(List Int)):Option ((List Int)×Bool):=
  if(n.Op==(1:Int))then
  (hM n ef true (0:Int))
  else
  (if(n.Op==(2:Int))then
  ((gn ([]:List Int) a1).bind fun l=>
  (gn l b).bind fun out=>
  (qQ n.Cond out).bind fun r=>
  some (out,r))
  else
  (if(n.Op==(3:Int))then
  ((qQ n.Cond a1).bind fun r1=>
  some (a1,r1))
  else
  (if(n.Op==(4:Int))then
  (j9 n a1 ef ([]:List Int) (0:Int))
  else
  (if(n.Op==(5:Int))then
  (j7 n a1 ef ([]:List Int) true (0:Int))
  else
  (if(n.Op==(6:Int))then
  (some (a1,true))
  else
  (if(n.Op==(7:Int))then
  (if((a1.length:Int) !=(b.length:Int))then
  (some ([],false))
  else
  (hE b a1 0 ([]:List Int) true))
  else
  (hD n a1 ef true (0:Int))))))))

def i0(l:dh)(at1:Int)(e1:ap)(a1:(List Int))(b1:(List Int)):Option ((List Int)×Bool):=
 (cD e1 a1 b1).bind fun r2=>
 if(((e1.Op==(8:Int))&&(at1 !=(IntKind.i64.wrap ((l.Nodes.length:Int)-(1:Int)))))||(decide ((16:Int)<(r2.1.length:Int))))then
 (some ([],false))
 else
 (some (r2.1,r2.2))

def ka(self__:dh→Int→Option ((List Int)×Bool))(l:dh)(at1:Int)(e1:ap)(a1:(List Int)):Option ((List Int)×Bool):=
  if(decide ((0:Int)≤e1.B))then
  ((self__ l e1.B).bind fun r3=>
  if(!r3.2)then
  (some ([],false))
  else
  (i0 l at1 e1 a1 r3.1))
  else
  (i0 l at1 e1 a1 ([]))

def fz:Nat→dh→Int→Option ((List Int)×Bool)
  |0,_,_=>none
  |fu+1,l,at1=>
    (xo l at1).bind fun r=>
    (if(!(r==(0:Int)))then((gj l.Nodes at1).bind fun e=>
    (n8 e).bind fun r1=>
    some (!r1))else some true).bind fun t=>
    if t then
    (some ([],false))
    else
    ((gj l.Nodes at1).bind fun e1=>
    if(decide ((0:Int)≤e1.A))then
    (((fz fu) l e1.A).bind fun r4=>
    if(!r4.2)then
    (some ([],false))
    else
    (ka (fz fu) l at1 e1 r4.1))
    else
    (ka (fz fu) l at1 e1 ([])))

def lR(l:dh)(at1:Int):Option ((List Int)×Bool):=
 fz ef l at1

def kI(nx1:ap→Option ((List Int)×Bool))(p:ap)(e2:bC):Option ((List Int)×Bool):=
 (uq e2 ([])).bind fun r2=>
 (gn p.Items ([r2])).bind fun l7=>
 nx1 ({p with Items:=l7}:ap)

def dw(nx:Nat→ap→dh→Option ((List Int)×Bool))(i:Nat)(n1:ap)(l:dh):List Int→ap→Option ((List Int)×Bool)
 |[],p=>
  (gn l.Nodes ([(⟨(1:Int),(-1:Int),(-1:Int),(0:Int),[(1:Int),(2:Int),(3:Int)],false,(⟨[]⟩:bv),[],[],[],[],(0:Int)⟩:ap),p])).bind fun l5=>
  if((i:Int)==(0:Int))then
  (nx (i+1) (ap.mk n1.Op (IntKind.i64.wrap ((l5.length:Int)-(1:Int))) n1.B n1.Table n1.Kinds n1.Left n1.Cond n1.Keys n1.Aggs n1.Items n1.Order n1.Limit) ({l with Nodes:=l5}:dh))
  else
  (nx (i+1) (ap.mk n1.Op n1.A (IntKind.i64.wrap ((l5.length:Int)-(1:Int))) n1.Table n1.Kinds n1.Left n1.Cond n1.Keys n1.Aggs n1.Items n1.Order n1.Limit) ({l with Nodes:=l5}:dh))
 |e1::tl1,p=>
  if(decide ((0:Int)<e1))then
  (kI (dw nx i n1 l tl1) p (⟨(2:Int),(0:Int),(0:Int),(IntKind.i64.wrap (e1-(1:Int))),(⟨(0:Int),(0:Int),(0:Int),[]⟩:aF)⟩:bC))
  else
  (kI (dw nx i n1 l tl1) p (⟨(1:Int),(0:Int),(0:Int),(0:Int),(⟨(0:Int),(0:Int),(0:Int),[]⟩:aF)⟩:bC))

def bP:List (List Int)→Nat→ap→dh→Option ((List Int)×Bool)
 |[],i,n1,l=>
  (gn l.Nodes ([n1])).bind fun l2=>
  (lR ({l with Nodes:=l2}:dh) (IntKind.i64.wrap ((l2.length:Int)-(1:Int)))).bind fun r=>
  some (r.1,r.2)
 |e::tl,i,n1,l=>
  (uk e).bind fun r1=>
  if r1 then
  (some ([],false))
  else
  (dw (bP tl) i n1 l e ({(⟨(5:Int),(l.Nodes.length:Int),(-1:Int),(0:Int),[],false,(⟨[]⟩:bv),[],[],[],[],(0:Int)⟩:ap)with Items:=([]:List bv)}:ap))

def du(n:ap)(parts:(List (List Int))):Option ((List Int)×Bool):=
 bP parts 0 n ({(⟨[]⟩:dh)with Nodes:=([]:List ap)}:dh)

def jU(n:ap):List fy→Nat→(List Int)→Option (List Int)
  |[],i,out1=>
    some out1
  |e::tl,i,out1=>
    if(e.Tag==(3:Int))then
    ((gj out1 (IntKind.i64.wrap ((n.Keys.length:Int)+(i:Int)))).bind fun e1=>
    (some (out1.set (IntKind.i64.wrap ((n.Keys.length:Int)+(i:Int))).toNat (4:Int))).bind fun st=>
    (jU n tl) (i+1) st)
    else
    ((jU n tl) (i+1) out1)

def mH(n:ap)(kinds:(List Int)):Option (List Int):=
 (gn ([]:List Int) kinds).bind fun out=>
 jU n n.Aggs 0 out

def nu(nx1:Nat→(List Int)→Option ((List Int)×Bool))(i1:Nat)(out1:List Int)(e2:Int)(x1:Bool):Option ((List Int)×Bool):=
  if x1 then
  (if(e2==(4:Int))then
  (some ([],false))
  else
  ((gn out1 ([e2])).bind fun out4=>
  nx1 (i1+1) out4))
  else
  (some ([],false))

def nv(nx1:Nat→(List Int)→Option ((List Int)×Bool))(i1:Nat)(e1:fy)(out1:List Int)(e2:Int)(x:Bool):Option ((List Int)×Bool):=
  if x then
  (if(e2 !=(2:Int))then
  (some ([],false))
  else
  ((gn out1 ([e2])).bind fun out2=>
  nx1 (i1+1) out2))
  else
  (if(e1.Tag==(3:Int))then
  (if(e2 !=(4:Int))then
  (some ([],false))
  else
  ((gn out1 ([(2:Int)])).bind fun out3=>
  nx1 (i1+1) out3))
  else
  (if(e1.Tag==(4:Int))then
  (nu nx1 i1 out1 e2 (e1.Tag==(4:Int)))
  else
  (nu nx1 i1 out1 e2 (e1.Tag==(5:Int)))))

def eV(n:ap)(a1:(List Int)):List fy→Nat→(List Int)→Option ((List Int)×Bool)
  |[],i1,out1=>
    some (out1,true)
  |e1::tl1,i1,out1=>
    (gj a1 (IntKind.i64.wrap ((n.Keys.length:Int)+(i1:Int)))).bind fun e2=>
    if(decide ((0:Int)<(e1.Arg.Nodes.length:Int)))then
    (some ([],false))
    else
    (if(e1.Tag==(1:Int))then
    (nv (eV n a1 tl1) i1 e1 out1 e2 (e1.Tag==(1:Int)))
    else
    (nv (eV n a1 tl1) i1 e1 out1 e2 (e1.Tag==(2:Int))))

def lx(n:ap)(a1:(List Int)):List Int→Nat→(List Int)→Option ((List Int)×Bool)
  |[],i,out=>
    eV n a1 n.Aggs 0 out
  |e::tl,i,out=>
    (if(!(e !=(i:Int)))then((gj a1 (i:Int)).bind fun e3=>
    some (e3==(4:Int)))else some true).bind fun t=>
    if t then
    (some ([],false))
    else
    ((gj a1 (i:Int)).bind fun e4=>
    (gn out ([e4])).bind fun out5=>
    (lx n a1 tl) (i+1) out5)

def nw(n:ap)(a1:(List Int)):Option ((List Int)×Bool):=
 if((((decide ((3:Int)<(n.Keys.length:Int)))||(decide ((12:Int)<(n.Aggs.length:Int))))||((IntKind.i64.wrap ((n.Keys.length:Int)+(n.Aggs.length:Int))) !=(a1.length:Int)))||((a1.length:Int)==(0:Int)))then
 (some ([],false))
 else
 (lx n a1 n.Keys 0 ([]:List Int))

def dg(l:(List ap))(nx:Nat→(List (List Int))→Option ((List (List Int))×Int))(i:Nat)(e:ap)(out:List (List Int))(ok:Bool)(k:(List Int)):Option ((List (List Int))×Int):=
  if((!ok)||(((e.Op==(8:Int))||(e.Op==(10:Int)))&&((i:Int) !=(IntKind.i64.wrap ((l.length:Int)-(1:Int))))))then
  (some ([],(i:Int)))
  else
  ((gn out ([k])).bind fun out1=>
  nx (i+1) out1)

def dU(l:(List ap))(nx:Nat→(List (List Int))→Option ((List (List Int))×Int))(i:Nat)(e:ap)(out:List (List Int))(parts1:List (List Int)):Option ((List (List Int))×Int):=
  if(e.Op==(9:Int))then
  ((sI e).bind fun r3=>
  dg l nx i e out r3.2 r3.1)
  else
  (if(e.Op==(10:Int))then
  ((du (ap.mk (4:Int) e.A e.B e.Table e.Kinds e.Left e.Cond e.Keys e.Aggs e.Items e.Order e.Limit) parts1).bind fun r4=>
  if r4.2 then
  ((mH e r4.1).bind fun r5=>
  dg l nx i e out r4.2 r5)
  else
  (dg l nx i e out r4.2 r4.1))
  else
  (if(e.Op==(11:Int))then
  ((gj parts1 (0:Int)).bind fun e1=>
  (nw e e1).bind fun r6=>
  (if r6.2 then((gj l e.A).bind fun e2=>
  some (e2.Op==(9:Int)))else some false).bind fun t1=>
  dg l nx i e out t1 r6.1)
  else
  (if(e.Op==(1:Int))then
  ((du e ([])).bind fun r7=>
  dg l nx i e out r7.2 r7.1)
  else
  ((du e parts1).bind fun r8=>
  dg l nx i e out r8.2 r8.1))))

def ny(l:(List ap))(nx:Nat→(List (List Int))→Option ((List (List Int))×Int))(i:Nat)(e:ap)(out:List (List Int))(parts:List (List Int)):Option ((List (List Int))×Int):=
  if(decide ((0:Int)≤e.B))then
  ((gj out e.B).bind fun e3=>
  (gn parts ([e3])).bind fun parts2=>
  dU l nx i e out parts2)
  else
  (dU l nx i e out parts)

def cC(l:(List ap)):List ap→Nat→(List (List Int))→Option ((List (List Int))×Int)
  |[],i,out=>
    (rZ l (IntKind.i64.wrap ((l.length:Int)-(1:Int)))).bind fun r=>
    if(r !=(l.length:Int))then
    (some ([],(IntKind.i64.wrap ((l.length:Int)-(1:Int)))))
    else
    (some (out,(-1:Int)))
  |e::tl,i,out=>
    (rZ l (i:Int)).bind fun r1=>
    (if(decide ((0:Int)<r1))then((n7 e).bind fun r2=>
    some r2)else some false).bind fun t=>
    if t then
    (if(decide ((0:Int)≤e.A))then
    ((gj out e.A).bind fun e4=>
    (gn ([]:List (List Int)) ([e4])).bind fun parts3=>
    ny l (cC l tl) i e out parts3)
    else
    (ny l (cC l tl) i e out ([]:List (List Int))))
    else
    (dg l (cC l tl) i e out t ([]))

def nz(l:(List ap)):Option ((List (List Int))×Int):=
 if((decide ((l.length:Int)<(1:Int)))||(decide ((60:Int)<(l.length:Int))))then
 (some ([],(0:Int)))
 else
 (cC l l 0 ([]:List (List Int)))

def mF(nx:Int→Option Bool)(i:Int)(e:ez):Nat→Int→Option Bool
  |0,_=>none
  |n1+1,k=>
    if(decide (k<(e.Cols.length:Int)))then
    ((gj e.Cols k).bind fun e1=>
    if((decide (e1<(0:Int)))||(decide ((15:Int)<e1)))then
    (some false)
    else
    ((mF nx i e n1) (IntKind.i64.wrap (k+(1:Int)))))
    else
    ((nz e.Nodes).bind fun r=>
    if(decide ((0:Int)≤r.2))then
    (some false)
    else
    (nx (IntKind.i64.wrap (i+(1:Int)))))

def k7(p:dn):Nat→Int→Option Bool
  |0,_=>none
  |n+1,i=>
    if(decide (i<(p.Frags.length:Int)))then
    ((gj p.Frags i).bind fun e=>
    if(((((e.At !=(1:Int))&&(e.At !=(2:Int)))||(decide (e.Way<(1:Int))))||(decide ((4:Int)<e.Way)))||(decide ((16:Int)<(e.Cols.length:Int))))then
    (some false)
    else
    (mF (k7 p n) i e ef (0:Int)))
    else
    (some true)

def ui(p:dn):Option Bool:=
 if((decide ((p.Frags.length:Int)<(1:Int)))||(decide ((30:Int)<(p.Frags.length:Int))))then
 (some false)
 else
 (k7 p ef (0:Int))

def s8(n:Int):Option Bool:=
 some ((decide ((1:Int)≤n))&&(decide (n≤(2147483647:Int))))

def nD:List aF→Option Bool
 |[]=>
  some true
 |e::tl=>
  (kJ e).bind fun r1=>
  if(!r1)then
  (some false)
  else
  ((nD tl))

def sN(r:(List aF)):Option Bool:=
 if(decide ((16:Int)<(r.length:Int)))then
 (some false)
 else
 (nD r)

def mG(l:(List (List aF))):List (List aF)→Option Bool
 |[]=>
  some ((decide ((1:Int)≤(l.length:Int)))&&(decide ((l.length:Int)≤(4:Int))))
 |e::tl=>
  (sN e).bind fun r=>
  if(!r)then
  (some false)
  else
  ((mG l tl))

def uj(l:(List (List aF))):Option Bool:=
 mG l l

def sH(b:dH)(seq:Int):Option Bool:=
  if((decide (seq<(1:Int)))||(decide ((1099511627776:Int)<seq)))then
  (some false)
  else
  (if b.End then
  (some (((b.Rows.length:Int)==(0:Int))&&(b.Count==(IntKind.u64.wrap (seq-(1:Int))))))
  else
  ((if(b.Count==(0:Int))then((uj b.Rows).bind fun r=>
  some r)else some false).bind fun t=>
  some t))

def ru(p:co):Option Bool:=
  (s8 p.Session).bind fun r=>
  if(!r)then
  (some false)
  else
  (if(p.Kind==(1:Int))then
  ((if(p.Limit==(0:Int))then((sH p.Batch p.Seq).bind fun r1=>
  some r1)else some false).bind fun t=>
  some t)
  else
  (if(p.Kind==(2:Int))then
  (some ((((((((p.Batch.Rows.length:Int)==(0:Int))&&(!p.Batch.End))&&(p.Batch.Count==(0:Int)))&&(decide ((1:Int)≤p.Seq)))&&(decide (p.Seq≤(1099511627777:Int))))&&(decide ((IntKind.u64.wrap (p.Seq-(1:Int)))≤p.Limit)))&&(decide (p.Limit≤(1099511627776:Int)))))
  else
  (some false)))

def nr(m:cu)(kind:Int):Option Bool:=
  (if(!(((decide (m.Frag<(0:Int)))||(decide ((29:Int)<m.Frag)))||(m.Packet.Kind !=kind)))then((ru m.Packet).bind fun r3=>
  some (!r3))else some true).bind fun t1=>
  if t1 then
  (some false)
  else
  ((nq (cu.mk (⟨m.Kind,m.From,m.To,m.Epoch,(0:Int),(0:Int),(⟨[]⟩:dn),(⟨(0:Int),(0:Int),(0:Int),(0:Int),(⟨[],false,(0:Int)⟩:dH)⟩:co),(0:Int)⟩:cu).Kind (⟨m.Kind,m.From,m.To,m.Epoch,(0:Int),(0:Int),(⟨[]⟩:dn),(⟨(0:Int),(0:Int),(0:Int),(0:Int),(⟨[],false,(0:Int)⟩:dH)⟩:co),(0:Int)⟩:cu).From (⟨m.Kind,m.From,m.To,m.Epoch,(0:Int),(0:Int),(⟨[]⟩:dn),(⟨(0:Int),(0:Int),(0:Int),(0:Int),(⟨[],false,(0:Int)⟩:dH)⟩:co),(0:Int)⟩:cu).To (⟨m.Kind,m.From,m.To,m.Epoch,(0:Int),(0:Int),(⟨[]⟩:dn),(⟨(0:Int),(0:Int),(0:Int),(0:Int),(⟨[],false,(0:Int)⟩:dH)⟩:co),(0:Int)⟩:cu).Epoch m.Frag (⟨m.Kind,m.From,m.To,m.Epoch,(0:Int),(0:Int),(⟨[]⟩:dn),(⟨(0:Int),(0:Int),(0:Int),(0:Int),(⟨[],false,(0:Int)⟩:dH)⟩:co),(0:Int)⟩:cu).Sites (⟨m.Kind,m.From,m.To,m.Epoch,(0:Int),(0:Int),(⟨[]⟩:dn),(⟨(0:Int),(0:Int),(0:Int),(0:Int),(⟨[],false,(0:Int)⟩:dH)⟩:co),(0:Int)⟩:cu).Plan m.Packet (⟨m.Kind,m.From,m.To,m.Epoch,(0:Int),(0:Int),(⟨[]⟩:dn),(⟨(0:Int),(0:Int),(0:Int),(0:Int),(⟨[],false,(0:Int)⟩:dH)⟩:co),(0:Int)⟩:cu).Err) m).bind fun r4=>
  some r4)

def py(m:cu)(x1:Bool):Option Bool:=
  if x1 then
  (if(m.Kind==(4:Int))then
  (nr m (2:Int))
  else
  (nr m (1:Int)))
  else
  (if(m.Kind==(5:Int))then
  (if((m.Err !=(140:Int))&&(m.Err !=(300:Int)))then
  (some false)
  else
  ((nq (cu.mk (⟨m.Kind,m.From,m.To,m.Epoch,(0:Int),(0:Int),(⟨[]⟩:dn),(⟨(0:Int),(0:Int),(0:Int),(0:Int),(⟨[],false,(0:Int)⟩:dH)⟩:co),(0:Int)⟩:cu).Kind (⟨m.Kind,m.From,m.To,m.Epoch,(0:Int),(0:Int),(⟨[]⟩:dn),(⟨(0:Int),(0:Int),(0:Int),(0:Int),(⟨[],false,(0:Int)⟩:dH)⟩:co),(0:Int)⟩:cu).From (⟨m.Kind,m.From,m.To,m.Epoch,(0:Int),(0:Int),(⟨[]⟩:dn),(⟨(0:Int),(0:Int),(0:Int),(0:Int),(⟨[],false,(0:Int)⟩:dH)⟩:co),(0:Int)⟩:cu).To (⟨m.Kind,m.From,m.To,m.Epoch,(0:Int),(0:Int),(⟨[]⟩:dn),(⟨(0:Int),(0:Int),(0:Int),(0:Int),(⟨[],false,(0:Int)⟩:dH)⟩:co),(0:Int)⟩:cu).Epoch (⟨m.Kind,m.From,m.To,m.Epoch,(0:Int),(0:Int),(⟨[]⟩:dn),(⟨(0:Int),(0:Int),(0:Int),(0:Int),(⟨[],false,(0:Int)⟩:dH)⟩:co),(0:Int)⟩:cu).Frag (⟨m.Kind,m.From,m.To,m.Epoch,(0:Int),(0:Int),(⟨[]⟩:dn),(⟨(0:Int),(0:Int),(0:Int),(0:Int),(⟨[],false,(0:Int)⟩:dH)⟩:co),(0:Int)⟩:cu).Sites (⟨m.Kind,m.From,m.To,m.Epoch,(0:Int),(0:Int),(⟨[]⟩:dn),(⟨(0:Int),(0:Int),(0:Int),(0:Int),(⟨[],false,(0:Int)⟩:dH)⟩:co),(0:Int)⟩:cu).Plan (⟨m.Kind,m.From,m.To,m.Epoch,(0:Int),(0:Int),(⟨[]⟩:dn),(⟨(0:Int),(0:Int),(0:Int),(0:Int),(⟨[],false,(0:Int)⟩:dH)⟩:co),(0:Int)⟩:cu).Packet m.Err) m).bind fun r5=>
  some r5))
  else
  (some false))

def j6(m:cu)(x:Bool):Option Bool:=
  if x then
  ((nq (⟨m.Kind,m.From,m.To,m.Epoch,(0:Int),(0:Int),(⟨[]⟩:dn),(⟨(0:Int),(0:Int),(0:Int),(0:Int),(⟨[],false,(0:Int)⟩:dH)⟩:co),(0:Int)⟩:cu) m).bind fun r2=>
  some r2)
  else
  (if(m.Kind==(3:Int))then
  (py m (m.Kind==(3:Int)))
  else
  (py m (m.Kind==(4:Int))))

def sG(m:cu):Option Bool:=
  if((((((decide (m.From<(0:Int)))||(decide ((8:Int)<m.From)))||(decide (m.To<(0:Int))))||(decide ((8:Int)<m.To)))||(decide (m.Epoch<(1:Int))))||(decide ((12:Int)<m.Epoch)))then
  (some false)
  else
  (if(m.Kind==(1:Int))then
  ((if(!((decide (m.Sites<(1:Int)))||(decide ((8:Int)<m.Sites))))then((ui m.Plan).bind fun r=>
  some (!r))else some true).bind fun t=>
  if t then
  (some false)
  else
  ((nq (cu.mk (⟨m.Kind,m.From,m.To,m.Epoch,(0:Int),(0:Int),(⟨[]⟩:dn),(⟨(0:Int),(0:Int),(0:Int),(0:Int),(⟨[],false,(0:Int)⟩:dH)⟩:co),(0:Int)⟩:cu).Kind (⟨m.Kind,m.From,m.To,m.Epoch,(0:Int),(0:Int),(⟨[]⟩:dn),(⟨(0:Int),(0:Int),(0:Int),(0:Int),(⟨[],false,(0:Int)⟩:dH)⟩:co),(0:Int)⟩:cu).From (⟨m.Kind,m.From,m.To,m.Epoch,(0:Int),(0:Int),(⟨[]⟩:dn),(⟨(0:Int),(0:Int),(0:Int),(0:Int),(⟨[],false,(0:Int)⟩:dH)⟩:co),(0:Int)⟩:cu).To (⟨m.Kind,m.From,m.To,m.Epoch,(0:Int),(0:Int),(⟨[]⟩:dn),(⟨(0:Int),(0:Int),(0:Int),(0:Int),(⟨[],false,(0:Int)⟩:dH)⟩:co),(0:Int)⟩:cu).Epoch (⟨m.Kind,m.From,m.To,m.Epoch,(0:Int),(0:Int),(⟨[]⟩:dn),(⟨(0:Int),(0:Int),(0:Int),(0:Int),(⟨[],false,(0:Int)⟩:dH)⟩:co),(0:Int)⟩:cu).Frag m.Sites m.Plan (⟨m.Kind,m.From,m.To,m.Epoch,(0:Int),(0:Int),(⟨[]⟩:dn),(⟨(0:Int),(0:Int),(0:Int),(0:Int),(⟨[],false,(0:Int)⟩:dH)⟩:co),(0:Int)⟩:cu).Packet (⟨m.Kind,m.From,m.To,m.Epoch,(0:Int),(0:Int),(⟨[]⟩:dn),(⟨(0:Int),(0:Int),(0:Int),(0:Int),(⟨[],false,(0:Int)⟩:dH)⟩:co),(0:Int)⟩:cu).Err) m).bind fun r1=>
  some r1))
  else
  (if(m.Kind==(2:Int))then
  (j6 m (m.Kind==(2:Int)))
  else
  (if(m.Kind==(6:Int))then
  (j6 m (m.Kind==(6:Int)))
  else
  (j6 m (m.Kind==(7:Int))))))

def qV(m:cu):Option Bool:=
  (sG m).bind fun r=>
  (if r then((nt m).bind fun r1=>
  some (decide ((r1.length:Int)≤(20000:Int))))else some false).bind fun t=>
  some t

def rb(m:cu)(o:cu):Option Bool:=
  (vP).bind fun r=>
  if(!r)then
  (some false)
  else
  ((qj m).bind fun r1=>
  (if(!r1)then((qj o).bind fun r2=>
  some r2)else some true).bind fun t=>
  if t then
  (some true)
  else
  ((ma m).bind fun r3=>
  (vT m).bind fun r4=>
  (ld m o).bind fun r5=>
  (nq m o).bind fun r6=>
  (if(!(r5 !=r6))then((ld m m).bind fun r7=>
  some (!r7))else some true).bind fun t1=>
  if t1 then
  (some false)
  else
  ((qV m).bind fun r8=>
  if(!r8)then
  (some ((((r3.1.length:Int)==(0:Int))&&(r3.2==(330:Int)))&&(r4==(330:Int))))
  else
  ((if((r3.2==(0:Int))&&(r4==(0:Int)))then((nt m).bind fun r9=>
  (pm r3.1 r9).bind fun r10=>
  some r10)else some false).bind fun t2=>
  some t2))))


end Go.Proofs.YtdohlidddcgfjaaGreat

