/- da of this claim: F. -/
import Derived.Test.YtfhhakidodmdfaaGreatDoorJdD
import Derived.Test.YtfhhakidodmdfaaGreatDoorJdV4
set_option linter.all false
namespace Go.Proofs.YtfhhakidodmdfaaGreatDoor
open Go

def fH(f:(Int→Option Bool)):List Int→Nat→Option Int
 |[],i=>
  some (-1:Int)
 |e::tl,i=>
  (f e).bind fun r=>
  if r then
  (some (i:Int))
  else
  ((fH f tl) (i+1))

def la(s:(List Int))(f:(Int→Option Bool)):Option Int:=
 fH f s 0

def cA(s:(List Int))(f:(Int→Option Bool)):Option Bool:=
 (la s f).bind fun r=>
 some (decide ((0:Int)≤r))

def Cu(k:Int):Option Bool:=
 some (((k==(1:Int))||(k==(2:Int)))||(k==(3:Int)))

def jo(k:Int):Option Bool:=
 (Cu k).bind fun r=>
 some (!r)

def fX(c:aE)(n:am):Option ((List Int)×Bool):=
  (if((((decide ((0:Int)≤n.Table))&&(decide (n.Table<(4:Int))))&&(decide ((1:Int)≤(n.Kinds.length:Int))))&&(decide ((n.Kinds.length:Int)≤(4:Int))))then((cA n.Kinds jo).bind fun r=>
  some (!r))else some false).bind fun t=>
  some (n.Kinds,t)

def mh(s:List Int):Option (List Int):=
 some s

def mi(n:Int):Option (List Int):=
  if(decide ((0:Int)<(IntKind.i64.wrap (n-(IntKind.i64.wrap ((0:Int)-(0:Int)))))))then
  ((V4 (IntKind.i64.wrap (n-(IntKind.i64.wrap ((0:Int)-(0:Int)))))).bind fun _=>
  (nk (IntKind.i64.wrap (n-(IntKind.i64.wrap ((0:Int)-(0:Int))))) (0:Int)).bind fun mk=>
  (dx mk 0 (0:Int)).bind fun y=>
  mh y)
  else
  (mh ([]:List Int))

def lu(n:Int):Option (List Int):=
 if(decide (n<(0:Int)))then
 (none)
 else
 (mi n)

def je:List (List Int)→(List Int)→Option (List Int)
 |[],newslice=>
  some newslice
 |e1::tl1,newslice=>
  (app newslice e1).bind fun newslice1=>
  (je tl1) newslice1

def jf(slices:(List (List Int))):List (List Int)→Int→Option (List Int)
 |[],size=>
  (lu size).bind fun r=>
  je slices r
 |e::tl,size=>
  if(decide ((IntKind.i64.wrap (size+(e.length:Int)))<(0:Int)))then
  (none)
  else
  ((jf slices tl) (IntKind.i64.wrap (size+(e.length:Int))))

def iL(slices:(List (List Int))):Option (List Int):=
 jf slices slices (0:Int)

def oY(tag:Int):Option Int:=
  if((tag==(1:Int))||(tag==(2:Int)))then
  (some (0:Int))
  else
  (if((decide ((4:Int)≤tag))&&(decide (tag≤(7:Int))))then
  (some (1:Int))
  else
  (if((decide ((12:Int)≤tag))&&(decide (tag≤(23:Int))))then
  (some (2:Int))
  else
  (some (-1:Int))))

def kh(v1:ac):Option ac:=
 some v1

def pu(v2:ac):Option ac:=
 kh (ac.mk (0:Int) v2.N v2.U v2.S)

def pt(v:ac):Option ac:=
 pu (ac.mk v.Kind (0:Int) v.U v.S)

def pr(v3:ac):Option ac:=
 kh v3

def wR(v:ac):Option ac:=
  if(v.Kind==(1:Int))then
  (if((v.N !=(0:Int))&&(v.N !=(1:Int)))then
  (kh v)
  else
  (pt v))
  else
  (if(v.Kind==(2:Int))then
  (pt v)
  else
  (if(v.Kind==(0:Int))then
  (pu v)
  else
  (if(v.Kind==(3:Int))then
  (if(decide ((v.S.length:Int)≤(40:Int)))then
  (pr (ac.mk (0:Int) v.N v.U ([])))
  else
  (pr v))
  else
  (if(v.Kind==(4:Int))then
  (kh (ac.mk (0:Int) (0:Int) (0:Int) v.S))
  else
  (kh v)))))

def kQ(v:ac):Option Int:=
 (wR v).bind fun r=>
 if(!decide (r=(⟨(0:Int),(0:Int),(0:Int),[]⟩:ac)))then
 (some (120:Int))
 else
 (some (0:Int))

def lX(v:ac):Option Bool:=
 (kQ v).bind fun r=>
 some ((r==(0:Int))&&(v.Kind !=(4:Int)))

def t6(n:bo):Option Bool:=
  if(n.Tag==(1:Int))then
  ((lX n.Value).bind fun r=>
  some (r&&(n.Col==(0:Int))))
  else
  (if(n.Tag==(2:Int))then
  (some (((decide (n.Value=(⟨(0:Int),(0:Int),(0:Int),[]⟩:ac)))&&(decide ((0:Int)≤n.Col)))&&(decide (n.Col<(16:Int)))))
  else
  (some ((decide (n.Value=(⟨(0:Int),(0:Int),(0:Int),[]⟩:ac)))&&(n.Col==(0:Int)))))

def lN(nx:Nat→(List Int)→(List Int)→Option ((List Int)×Bool))(i:Nat)(e1:bo)(all:List Int)(open1:List Int)(r:Int):List Int→Nat→Int→(List Int)→Option ((List Int)×Bool)
  |[],i1,first,at1=>
    if(!decide (at1=([e1.L,e1.R])))then
    (some ([],false))
    else
    ((app all ([first])).bind fun all1=>
    (dx open1 0 (IntKind.i64.wrap ((open1.length:Int)-r))).bind fun y1=>
    (app y1 ([(i:Int)])).bind fun open2=>
    nx (i+1) all1 open2)
  |e2::tl1,i1,first,at1=>
    (cE all e2).bind fun e3=>
    (cE at1 (i1:Int)).bind fun e4=>
    (some (at1.set (i1:Int).toNat e2)).bind fun ar=>
    (lN nx i e1 all open1 r tl1) (i1+1) (min first e3) ar

def kq:List bo→Nat→(List Int)→(List Int)→Option ((List Int)×Bool)
  |[],i,all,open1=>
    some (all,(((open1.length:Int)==(1:Int))&&(decide ((all.length:Int)≤(1000:Int)))))
  |e1::tl,i,all,open1=>
    (oY e1.Tag).bind fun r=>
    (if(!((decide (r<(0:Int)))||(decide ((open1.length:Int)<r))))then((t6 e1).bind fun r1=>
    some (!r1))else some true).bind fun t=>
    if t then
    (some ([],false))
    else
    ((dx open1 (IntKind.i64.wrap ((open1.length:Int)-r)) (open1.length:Int)).bind fun y=>
    lN (kq tl) i e1 all open1 r y 0 (i:Int) ([(-1:Int),(-1:Int)]))

def xl(e:bL):Option ((List Int)×Bool):=
 kq e.Nodes 0 ([]:List Int) ([]:List Int)

def qt(e:bL):Option Int:=
 (xl e).bind fun r=>
 if(!r.2)then
 (some (200:Int))
 else
 (some (0:Int))

def d8(i:Nat)(y:List Int):Nat→Nat→(List Int)→Int→Option (List Int)
  |0,i1,s1,k=>
    (dx s1 k (s1.length:Int)).bind fun y1=>
    (some (s1.take k.toNat++List.replicate y1.length (0:Int))).bind fun cl=>
    (dx cl 0 k).bind fun y2=>
    some y2
  |k2+1,i1,s1,k=>
    (xg s1 (i:Int) y.length (i1:Int)).bind fun e3=>
    (xg s1 (i:Int) y.length (IntKind.i64.wrap ((i1:Int)-(1:Int)))).bind fun e4=>
    if(e3 !=e4)then
    ((xg s1 (i:Int) y.length (i1:Int)).bind fun e5=>
    (cE s1 k).bind fun e6=>
    (some (s1.set k.toNat e5)).bind fun st=>
    (d8 i y k2) (i1+1) st (IntKind.i64.wrap (k+(1:Int))))
    else
    ((d8 i y k2) (i1+1) s1 k)

def eT(s:(List Int)):List Int→Nat→Option (List Int)
  |[],i=>
    some s
  |e::tl,i=>
    (cE s (IntKind.i64.wrap ((i:Int)-(1:Int)))).bind fun e1=>
    if(e==e1)then
    ((dx s (i:Int) (s.length:Int)).bind fun y=>
    d8 i y (y.length-1) 1 s (i:Int))
    else
    ((eT s tl) (i+1))

def jO(s:(List Int)):Option (List Int):=
 if(decide ((s.length:Int)<(2:Int)))then
 (some s)
 else
 (eT s (s.drop (1)) 1)

def mz:List bo→(List Int)→Option (List Int)
  |[],out=>
    (DN out).bind fun tt=>
    (jO tt).bind fun r1=>
    some r1
  |e1::tl,out=>
    if(e1.Tag==(2:Int))then
    ((app out ([e1.Col])).bind fun out1=>
    (mz tl) out1)
    else
    ((mz tl) out)

def sq(e:bL):Option (List Int):=
 (qt e).bind fun r=>
 if(r !=(0:Int))then
 (some ([]:List Int))
 else
 (mz e.Nodes ([]:List Int))

def cy(s:(List Int)):Option (List Int):=
 (app ([]:List Int) s).bind fun x=>
 some x

def oF(stack:(List Int))(k:Int):Option ((List Int)×(List Int)):=
 (dx stack (IntKind.i64.wrap ((stack.length:Int)-k)) (stack.length:Int)).bind fun y=>
 (cy y).bind fun r=>
 (dx stack 0 (IntKind.i64.wrap ((stack.length:Int)-k))).bind fun y1=>
 some (r,y1)

def lM(bad:Int)(stack:List Int):Option (Int×Int):=
  if(bad !=(0:Int))then
  (some ((0:Int),bad))
  else
  ((cE stack (0:Int)).bind fun e1=>
  some (e1,(0:Int)))

def gW(do1:(bo→(List Int)→Option (Int×Int))):List bo→Int→(List Int)→Option (Int×Int)
  |[],bad1,stack1=>
    lM bad1 stack1
  |e2::tl,bad1,stack1=>
    (oY e2.Tag).bind fun r=>
    (oF stack1 r).bind fun r1=>
    (do1 e2 r1.1).bind fun r2=>
    if(r2.2 !=(0:Int))then
    (lM r2.2 r1.2)
    else
    ((app r1.2 ([r2.1])).bind fun l2=>
    (gW do1 tl) bad1 l2)

def ox(e:bL)(do1:(bo→(List Int)→Option (Int×Int))):Option (Int×Int):=
 gW do1 e.Nodes (0:Int) ([]:List Int)

def wk(tag:Int):Option Bool:=
 some ((tag==(4:Int))||((decide ((12:Int)≤tag))&&(decide (tag≤(15:Int)))))

def lO(kinds:(List Int))(n:bo):List Int→Int→Option (Int×Int)
  |[],own=>
    if(n.Tag==(1:Int))then
    (some (n.Value.Kind,(0:Int)))
    else
    (if(n.Tag==(2:Int))then
    ((cE kinds n.Col).bind fun e1=>
    some (e1,(0:Int)))
    else
    ((wk n.Tag).bind fun r=>
    if r then
    (if((own==(-1:Int))||((own !=(0:Int))&&(own !=(2:Int))))then
    (some ((0:Int),(201:Int)))
    else
    (some ((2:Int),(0:Int))))
    else
    (if(((n.Tag==(5:Int))||(n.Tag==(22:Int)))||(n.Tag==(23:Int)))then
    (if((own==(-1:Int))||((own !=(0:Int))&&(own !=(1:Int))))then
    (some ((0:Int),(201:Int)))
    else
    (some ((1:Int),(0:Int))))
    else
    (if((own==(-1:Int))||((own !=(0:Int))&&(own !=own)))then
    (some ((0:Int),(201:Int)))
    else
    (some ((1:Int),(0:Int)))))))
  |e::tl,own=>
    if((e==(0:Int))||(e==own))then
    ((lO kinds n tl) own)
    else
    (if(own==(0:Int))then
    ((lO kinds n tl) e)
    else
    ((lO kinds n tl) (-1:Int)))

def jp(kinds:(List Int))(n:bo)(l:(List Int)):Option (Int×Int):=
 lO kinds n l (0:Int)

def my(e:bL)(kinds:(List Int)):List Int→Option (Int×Int)
 |[]=>
  (ox e (jp kinds)).bind fun r2=>
  some (r2.1,r2.2)
 |e2::tl1=>
  if(decide ((kinds.length:Int)≤e2))then
  (some ((0:Int),(2:Int)))
  else
  ((my e kinds tl1))

def pN(e:bL)(kinds:(List Int)):List Int→Option (Int×Int)
 |[]=>
  (sq e).bind fun r1=>
  my e kinds r1
 |e1::tl=>
  if((decide (e1<(0:Int)))||(decide ((3:Int)<e1)))then
  (some ((0:Int),(2:Int)))
  else
  ((pN e kinds tl))

def sl(e:bL)(kinds:(List Int)):Option (Int×Int):=
 (qt e).bind fun r=>
 if(r !=(0:Int))then
 (some ((0:Int),r))
 else
 (pN e kinds kinds)

def qZ(e:bL)(kinds:(List Int)):Option Bool:=
 (sl e kinds).bind fun r=>
 some ((r.2==(0:Int))&&((r.1==(1:Int))||(r.1==(0:Int))))

def gL(c:aE)(n:am):Option ((List Int)×Bool):=
 (cE c.kinds n.A).bind fun e=>
 (cE c.kinds n.B).bind fun e1=>
 (iL ([e,e1])).bind fun r=>
 (qZ n.Cond r).bind fun r1=>
 some (r,r1)

def fY(c:aE)(n:am):Option ((List Int)×Bool):=
 (cE c.kinds n.A).bind fun e=>
 (qZ n.Cond e).bind fun r=>
 some (e,r)

def pG(kinds:(List Int))(c:Int):Option Bool:=
 some ((decide (c<(0:Int)))||(decide ((kinds.length:Int)≤c)))

def rU(l:(List Int))(kinds:(List Int)):Option Bool:=
 (cA l (pG kinds)).bind fun r=>
 some (!r)

def rX(r:Int×Int)(x:Bool):Option (Int×Bool):=
 if x then
 (some (r.1,(r.2==(0:Int))))
 else
 (some ((0:Int),false))

def xR(a1:hY)(kinds:(List Int)):Option (Int×Bool):=
  if(a1.Tag==(1:Int))then
  (some ((2:Int),((a1.Arg.Nodes.length:Int)==(0:Int))))
  else
  ((sl a1.Arg kinds).bind fun r=>
  if(a1.Tag==(2:Int))then
  (some ((2:Int),(r.2==(0:Int))))
  else
  (if(a1.Tag==(3:Int))then
  (some ((2:Int),((r.2==(0:Int))&&((r.1==(2:Int))||(r.1==(0:Int))))))
  else
  (if(a1.Tag==(4:Int))then
  (rX r (a1.Tag==(4:Int)))
  else
  (rX r (a1.Tag==(5:Int))))))

def fb(e:(List Int)):List hY→(List Int)→Bool→Option ((List Int)×Bool)
 |[],out1,ok=>
  some (out1,ok)
 |e2::tl1,out1,ok=>
  (xR e2 e).bind fun r1=>
  (app out1 ([r1.1])).bind fun out2=>
  (fb e tl1) out2 (ok&&r1.2)

def gq(n:am)(e:(List Int))(t:Bool):List Int→(List Int)→Option ((List Int)×Bool)
 |[],out=>
  fb e n.Aggs out t
 |e1::tl,out=>
  (cE e e1).bind fun e3=>
  (app out ([e3])).bind fun out3=>
  (gq n e t tl) out3

def gy(c:aE)(n:am):Option ((List Int)×Bool):=
  (cE c.kinds n.A).bind fun e=>
  (if(((decide ((n.Keys.length:Int)≤(3:Int)))&&(decide ((n.Aggs.length:Int)≤(12:Int))))&&(decide ((0:Int)<(IntKind.i64.wrap ((n.Keys.length:Int)+(n.Aggs.length:Int))))))then((rU n.Keys e).bind fun r=>
  some r)else some false).bind fun t=>
  if(!t)then
  (some ([],false))
  else
  (gq n e t n.Keys ([]:List Int))

def fx(c:aE)(n:am):List bL→(List Int)→Bool→Option ((List Int)×Bool)
 |[],out,ok=>
  some (out,ok)
 |e::tl,out,ok=>
  (cE c.kinds n.A).bind fun e1=>
  (sl e e1).bind fun r=>
  (app out ([r.1])).bind fun out1=>
  (fx c n tl) out1 (ok&&(r.2==(0:Int)))

def fD(c:aE)(n:am):Option ((List Int)×Bool):=
 fx c n n.Items ([]:List Int) ((decide ((1:Int)≤(n.Items.length:Int)))&&(decide ((n.Items.length:Int)≤(16:Int))))

def fc(c:aE)(n:am):Option ((List Int)×Bool):=
 (cE c.kinds n.A).bind fun e=>
 some (e,true)

def ip(nx:Nat→(List Int)→Bool→Option ((List Int)×Bool))(i:Nat)(e2:Int)(ok:Bool)(out1:List Int):Option ((List Int)×Bool):=
  (if ok then((cE out1 (i:Int)).bind fun e3=>
  some ((e3==e2)||(e2==(0:Int))))else some false).bind fun t=>
  nx (i+1) out1 t

def dH:List Int→Nat→(List Int)→Bool→Option ((List Int)×Bool)
  |[],i,out,ok=>
    some (out,ok)
  |e2::tl,i,out,ok=>
    (cE out (i:Int)).bind fun e4=>
    if(e4==(0:Int))then
    ((some (out.set (i:Int).toNat e2)).bind fun st=>
    ip (dH tl) i e2 ok st)
    else
    (ip (dH tl) i e2 ok out)

def gw(c:aE)(n:am):Option ((List Int)×Bool):=
  (cE c.kinds n.A).bind fun e=>
  (cE c.kinds n.B).bind fun e1=>
  if((e.length:Int) !=(e1.length:Int))then
  (some ([],false))
  else
  ((cy e).bind fun r=>
  dH e1 0 r true)

def dM(f:(dn→Option Bool)):List dn→Nat→Option Int
 |[],i=>
  some (-1:Int)
 |e::tl,i=>
  (f e).bind fun r=>
  if r then
  (some (i:Int))
  else
  ((dM f tl) (i+1))

def ii(s:(List dn))(f:(dn→Option Bool)):Option Int:=
 dM f s 0

def dN(s:(List dn))(f:(dn→Option Bool)):Option Bool:=
 (ii s f).bind fun r=>
 some (decide ((0:Int)≤r))

def ku(in1:(List Int))(o:dn):Option Bool:=
 some ((decide (o.Col<(0:Int)))||(decide ((in1.length:Int)≤o.Col)))

def gx(c:aE)(n:am):Option ((List Int)×Bool):=
  (cE c.kinds n.A).bind fun e=>
  (if(decide ((n.Order.length:Int)≤(3:Int)))then((dN n.Order (ku e)).bind fun r=>
  some (!r))else some false).bind fun t=>
  some (e,(((t&&(decide ((-1:Int)≤n.Limit)))&&(decide (n.Limit≤(2147483647:Int))))&&((c.kinds.length:Int)==(IntKind.i64.wrap ((c.Logic.Nodes.length:Int)-(1:Int))))))

def sR(n:am):Option Bool:=
 some (((((((((n.Table==(0:Int))&&((n.Kinds.length:Int)==(0:Int)))&&(!n.Left))&&((n.Cond.Nodes.length:Int)==(0:Int)))&&((n.Keys.length:Int)==(0:Int)))&&((n.Aggs.length:Int)==(0:Int)))&&((n.Items.length:Int)==(0:Int)))&&((n.Order.length:Int)==(0:Int)))&&(n.Limit==(0:Int)))

def sS(n:am):Option am:=
  if(n.Op==(1:Int))then
  (some (am.mk n.Op n.A n.B (0:Int) ([]) n.Left n.Cond n.Keys n.Aggs n.Items n.Order n.Limit))
  else
  (if(n.Op==(2:Int))then
  (some (am.mk n.Op n.A n.B n.Table n.Kinds false (⟨[]⟩:bL) n.Keys n.Aggs n.Items n.Order n.Limit))
  else
  (if(n.Op==(3:Int))then
  (some (am.mk n.Op n.A n.B n.Table n.Kinds n.Left (⟨[]⟩:bL) n.Keys n.Aggs n.Items n.Order n.Limit))
  else
  (if(n.Op==(4:Int))then
  (some (am.mk n.Op n.A n.B n.Table n.Kinds n.Left n.Cond ([]) ([]) n.Items n.Order n.Limit))
  else
  (if(n.Op==(5:Int))then
  (some (am.mk n.Op n.A n.B n.Table n.Kinds n.Left n.Cond n.Keys n.Aggs ([]) n.Order n.Limit))
  else
  (if(n.Op==(8:Int))then
  (some (am.mk n.Op n.A n.B n.Table n.Kinds n.Left n.Cond n.Keys n.Aggs n.Items ([]) (0:Int)))
  else
  (some n))))))

def pH(x:Bool):Option Int:=
 if x then
 (some (2:Int))
 else
 (some (1:Int))

def tQ(op:Int):Option Int:=
  if(op==(1:Int))then
  (some (0:Int))
  else
  (if(op==(2:Int))then
  (pH (op==(2:Int)))
  else
  (pH (op==(7:Int))))

def jG(c:aE)(i:Int):Option (Int×Bool):=
  (cE c.Logic.Nodes i).bind fun e=>
  (tQ e.Op).bind fun r=>
  if(r==(0:Int))then
  (some (i,((e.A==(-1:Int))&&(e.B==(-1:Int)))))
  else
  (if(r==(1:Int))then
  (if(((e.A !=(IntKind.i64.wrap (i-(1:Int))))||(e.B !=(-1:Int)))||(i==(0:Int)))then
  (some ((0:Int),false))
  else
  ((cE c.first e.A).bind fun e1=>
  some (e1,true)))
  else
  ((if(!((e.B !=(IntKind.i64.wrap (i-(1:Int))))||(i==(0:Int))))then((cE c.first e.B).bind fun e2=>
  some (e.A !=(IntKind.i64.wrap (e2-(1:Int)))))else some true).bind fun t=>
  if(t||(decide (e.A<(0:Int))))then
  (some ((0:Int),false))
  else
  ((cE c.first e.A).bind fun e3=>
  some (e3,true))))

def gr{Sg:Type}(yld:(Int×Bool)→Sg→Option (Bool×Sg))(nx:Nat→Sg→aE→Option (Sg×aE))(i:Nat)(s1:Sg)(ok1:Bool)(kinds:(List Int))(ob2:aE):Option (Sg×aE):=
 (app ob2.kinds ([kinds])).bind fun l6=>
 (yld ((i:Int),(ok1&&(decide ((kinds.length:Int)≤(16:Int))))) s1).bind fun r2=>
 if((!r2.1)||(!(ok1&&(decide ((kinds.length:Int)≤(16:Int))))))then
 (some (r2.2,({ob2 with kinds:=l6}:aE)))
 else
 (nx (i+1) r2.2 ({ob2 with kinds:=l6}:aE))

def ea{Sg:Type}(yld:(Int×Bool)→Sg→Option (Bool×Sg))(nx:Nat→Sg→aE→Option (Sg×aE))(i:Nat)(e2:am)(s1:Sg)(ok:Bool)(ob1:aE):Option (Sg×aE):=
  if ok then
  ((((oR (dw (dw (dw (dw (dw (dw (dw (dw ([]:List (Int×(aE→am→Option (((List Int)×Bool)×aE)))) (1:Int) (fun(mc:aE) (mx:am)=>(fX mc mx).map fun mr=>(mr,mc))) (2:Int) (fun(mc:aE) (mx:am)=>(gL mc mx).map fun mr=>(mr,mc))) (3:Int) (fun(mc:aE) (mx:am)=>(fY mc mx).map fun mr=>(mr,mc))) (4:Int) (fun(mc:aE) (mx:am)=>(gy mc mx).map fun mr=>(mr,mc))) (5:Int) (fun(mc:aE) (mx:am)=>(fD mc mx).map fun mr=>(mr,mc))) (6:Int) (fun(mc:aE) (mx:am)=>(fc mc mx).map fun mr=>(mr,mc))) (7:Int) (fun(mc:aE) (mx:am)=>(gw mc mx).map fun mr=>(mr,mc))) (8:Int) (fun(mc:aE) (mx:am)=>(gx mc mx).map fun mr=>(mr,mc))) e2.Op).getD (fun _ _=>none)) ob1 (e2)).bind fun r3=>
  gr yld nx i s1 r3.1.2 r3.1.1 r3.2)
  else
  (gr yld nx i s1 ok ([]) ob1)

def bC{Sg:Type}(yld:(Int×Bool)→Sg→Option (Bool×Sg)):List am→Nat→Sg→aE→Option (Sg×aE)
  |[],i,s1,ob=>
    some (s1,ob)
  |e2::tl,i,s1,ob=>
    (if((oR (dw (dw (dw (dw (dw (dw (dw (dw ([]:List (Int×(aE→am→Option (((List Int)×Bool)×aE)))) (1:Int) (fun(mc:aE) (mx:am)=>(fX mc mx).map fun mr=>(mr,mc))) (2:Int) (fun(mc:aE) (mx:am)=>(gL mc mx).map fun mr=>(mr,mc))) (3:Int) (fun(mc:aE) (mx:am)=>(fY mc mx).map fun mr=>(mr,mc))) (4:Int) (fun(mc:aE) (mx:am)=>(gy mc mx).map fun mr=>(mr,mc))) (5:Int) (fun(mc:aE) (mx:am)=>(fD mc mx).map fun mr=>(mr,mc))) (6:Int) (fun(mc:aE) (mx:am)=>(fc mc mx).map fun mr=>(mr,mc))) (7:Int) (fun(mc:aE) (mx:am)=>(gw mc mx).map fun mr=>(mr,mc))) (8:Int) (fun(mc:aE) (mx:am)=>(gx mc mx).map fun mr=>(mr,mc))) e2.Op).isSome)then((sS e2).bind fun r=>
    (sR r).bind fun r1=>
    some r1)else some false).bind fun t=>
    if t then
    ((jG ob (i:Int)).bind fun r4=>
    (app ob.first ([r4.1])).bind fun l7=>
    ea yld (bC yld tl) i e2 s1 r4.2 ({ob with first:=l7}:aE))
    else
    (ea yld (bC yld tl) i e2 s1 t ob)

def lv{Sg:Type}(c:aE)(yld:(Int×Bool)→Sg→Option (Bool×Sg))(s:Sg):Option (Sg×aE):=
 bC yld c.Logic.Nodes 0 s c

def pI(c:aE):Option (OS (Int×Bool) aE):=
 some (fun _=>lv c)

def ov(x:Int×Bool)(x1:Bool)(x2:Int)(p:Bool):Option (Option Nat×(Bool×Int×Bool)):=
 if(!x.2)then
 (some (some 0,(false,x.1,true)))
 else
 (some (none,(x1,x2,p)))

def oS(l:bU):Option (aE×Int×Bool):=
  if((decide ((l.Nodes.length:Int)<(1:Int)))||(decide ((60:Int)<(l.Nodes.length:Int))))then
  (some ((⟨l,[],[]⟩:aE),(0:Int),false))
  else
  ((pI (⟨l,[],[]⟩:aE)).bind fun it=>
  (it (Option Nat×(Bool×Int×Bool)) (wm (fun x s=>ov x s.1 s.2.1 s.2.2)) (none,(false,(0:Int),false))).bind fun r=>
  if r.1.1.isNone then
  ((cE r.2.first (IntKind.i64.wrap ((l.Nodes.length:Int)-(1:Int)))).bind fun e=>
  some (r.2,(IntKind.i64.wrap ((l.Nodes.length:Int)-(1:Int))),(e==(0:Int))))
  else
  ((isT r.1.2.2.2).bind fun _=>
  some (r.2,r.1.2.2.1,r.1.2.1)))

def q6(l:bU):Option (Int×Int):=
 (oS l).bind fun r=>
 if(!r.2.2)then
 (some (r.2.1,(230:Int)))
 else
 (some ((0:Int),(0:Int)))

def lR(kinds:(List Int))(nx:Option Bool):List ac→Nat→Option Bool
  |[],i1=>
    nx
  |e1::tl1,i1=>
    (kQ e1).bind fun r=>
    (if(!(r !=(0:Int)))then((if(e1.Kind !=(0:Int))then((cE kinds (i1:Int)).bind fun e2=>
    some (e1.Kind !=e2))else some false).bind fun t1=>
    some t1)else some true).bind fun t=>
    if t then
    (some false)
    else
    ((lR kinds nx tl1) (i1+1))

def lS(kinds:(List Int)):List (List ac)→Option Bool
 |[]=>
  some true
 |e::tl=>
  if((e.length:Int) !=(kinds.length:Int))then
  (some false)
  else
  (lR kinds (lS kinds tl) e 0)

def ra(rows:(List (List ac)))(kinds:(List Int)):Option Bool:=
 if(decide ((12:Int)<(rows.length:Int)))then
 (some false)
 else
 (lS kinds rows)

def nM(b:iJ):List am→Option Bool
  |[]=>
    some true
  |e::tl=>
    (if(e.Op==(1:Int))then((if(!(decide ((b.Tables.length:Int)≤e.Table)))then((cE b.Tables e.Table).bind fun e1=>
    (ra e1 e.Kinds).bind fun r1=>
    some (!r1))else some true).bind fun t1=>
    some t1)else some false).bind fun t=>
    if t then
    (some false)
    else
    ((nM b tl))

def ua(l:bU)(b:iJ):Option Bool:=
 (q6 l).bind fun r=>
 if(r.2 !=(0:Int))then
 (some false)
 else
 (nM b l.Nodes)

def q5(l:bU):Option ((List Int)×Int):=
  (oS l).bind fun r=>
  if(!r.2.2)then
  (some ([],(230:Int)))
  else
  ((cE r.1.kinds r.2.1).bind fun e=>
  (cy e).bind fun r1=>
  some (r1,(0:Int)))

def kJ(r:cX)(n:am):Option ((List (List ac))×Int):=
 (cE r.Base.Tables n.Table).bind fun e=>
 some (e,(0:Int))

def ij(s:List ac):Option (List ac):=
 some s

def ik(n:Int):Option (List ac):=
  if(decide ((0:Int)<(IntKind.i64.wrap (n-(IntKind.i64.wrap ((0:Int)-(0:Int)))))))then
  ((V4 (IntKind.i64.wrap (n-(IntKind.i64.wrap ((0:Int)-(0:Int)))))).bind fun _=>
  (nk (IntKind.i64.wrap (n-(IntKind.i64.wrap ((0:Int)-(0:Int))))) (⟨(0:Int),(0:Int),(0:Int),[]⟩:ac)).bind fun mk=>
  (dx mk 0 (0:Int)).bind fun y=>
  ij y)
  else
  (ij ([]:List ac))

def gA(n:Int):Option (List ac):=
 if(decide (n<(0:Int)))then
 (none)
 else
 (ik n)

def eW:List (List ac)→(List ac)→Option (List ac)
 |[],newslice=>
  some newslice
 |e1::tl1,newslice=>
  (app newslice e1).bind fun newslice1=>
  (eW tl1) newslice1

def eX(slices:(List (List ac))):List (List ac)→Int→Option (List ac)
 |[],size=>
  (gA size).bind fun r=>
  eW slices r
 |e::tl,size=>
  if(decide ((IntKind.i64.wrap (size+(e.length:Int)))<(0:Int)))then
  (none)
  else
  ((eX slices tl) (IntKind.i64.wrap (size+(e.length:Int))))

def dD(slices:(List (List ac))):Option (List ac):=
 eX slices slices (0:Int)

def fP{Sg:Type}(yld:(Int×(List ac))→Sg→Option (Bool×Sg))(nx:Nat→Sg→Option Sg)(i:Nat)(e2:(List ac)):List (List ac)→Sg→Option Sg
 |[],s2=>
  nx (i+1) s2
 |e4::tl1,s2=>
  (dD ([e2,e4])).bind fun r=>
  (yld ((i:Int),r) s2).bind fun r1=>
  if(!r1.1)then
  (some r1.2)
  else
  ((fP yld nx i e2 tl1) r1.2)

def dQ{Sg:Type}(b:(List (List ac)))(yld:(Int×(List ac))→Sg→Option (Bool×Sg)):List (List ac)→Nat→Sg→Option Sg
 |[],i,s1=>
  some s1
 |e2::tl,i,s1=>
  fP yld (dQ b yld tl) i e2 b s1

def lQ{Sg:Type}(a1:(List (List ac)))(b:(List (List ac)))(yld:(Int×(List ac))→Sg→Option (Bool×Sg))(s:Sg):Option Sg:=
 dQ b yld a1 0 s

def vT(a1:(List (List ac)))(b:(List (List ac))):Option (It (Int×(List ac))):=
 some (fun _=>lQ a1 b)

def lh(do1:(ac→ac→Option (ac×Int)))(a1:ac)(b:ac):Option (ac×Int):=
 (do1 b a1).bind fun r=>
 some (r.1,r.2)

def CA(do1:(ac→ac→Option (ac×Int))):Option (ac→ac→Option (ac×Int)):=
 some (lh do1)

def oI:Option ac:=
 some (⟨(0:Int),(0:Int),(0:Int),[]⟩:ac)

def uk(v:ac):Option ac:=
 some v

def oJ(b:Bool):Option ac:=
 if b then
 (uk (ac.mk (⟨(1:Int),(0:Int),(0:Int),[]⟩:ac).Kind (1:Int) (⟨(1:Int),(0:Int),(0:Int),[]⟩:ac).U (⟨(1:Int),(0:Int),(0:Int),[]⟩:ac).S))
 else
 (uk (⟨(1:Int),(0:Int),(0:Int),[]⟩:ac))

def ji:List ac→Option Int
 |[]=>
  some (0:Int)
 |e::tl=>
  (kQ e).bind fun r=>
  if(r !=(0:Int))then
  (some r)
  else
  ((ji tl))

def o4(l:(List ac)):Option Int:=
 ji l

def m9(p:Int):Option Bool:=
 some (p !=p)

def gH(p:Int)(y:Int):Option Int:=
  (m9 p).bind fun r=>
  (m9 y).bind fun r1=>
  if r then
  (if r1 then
  (some (0:Int))
  else
  (some (-1:Int)))
  else
  (if r1 then
  (some (1:Int))
  else
  (if(decide (p<y))then
  (some (-1:Int))
  else
  (if(decide (y<p))then
  (some (1:Int))
  else
  (some (0:Int)))))

def ga:List Int→Option Int
 |[]=>
  some (0:Int)
 |e::tl=>
  if(e !=(0:Int))then
  (some e)
  else
  ((ga tl))

def mC(vals:(List Int)):Option Int:=
 ga vals

def kK(p:Int):Option Bool:=
 some (p !=p)

def gC(p:Int)(y:Int):Option Int:=
  (kK p).bind fun r=>
  (kK y).bind fun r1=>
  if r then
  (if r1 then
  (some (0:Int))
  else
  (some (-1:Int)))
  else
  (if r1 then
  (some (1:Int))
  else
  (if(decide (p<y))then
  (some (-1:Int))
  else
  (if(decide (y<p))then
  (some (1:Int))
  else
  (some (0:Int)))))

def iX(a1:wz)(b:wz):Option Int:=
 some (Vv a1 b)

def oC(a1:wz)(b:wz):Option Int:=
 (iX a1 b).bind fun r=>
 some r

def k5(a1:ac)(b:ac):Option Int:=
  (lX a1).bind fun r=>
  (if(!(!r))then((lX b).bind fun r1=>
  some (!r1))else some true).bind fun t=>
  if t then
  (some (0:Int))
  else
  ((gH a1.Kind b.Kind).bind fun r2=>
  (gC a1.N b.N).bind fun r3=>
  (oC a1.S b.S).bind fun r4=>
  (mC ([r2,r3,r4])).bind fun r5=>
  some r5)

def p9(a1:ac)(b:ac)(is1:(Int→Option Bool)):Option (ac×Int):=
  (o4 ([a1,b])).bind fun r=>
  if(r !=(0:Int))then
  (some ((⟨(0:Int),(0:Int),(0:Int),[]⟩:ac),r))
  else
  (if(((a1.Kind==(4:Int))||(b.Kind==(4:Int)))||((!((a1.Kind==(0:Int))||(b.Kind==(0:Int))))&&(a1.Kind !=b.Kind)))then
  (some ((⟨(0:Int),(0:Int),(0:Int),[]⟩:ac),(2:Int)))
  else
  (if((a1.Kind==(0:Int))||(b.Kind==(0:Int)))then
  ((oI).bind fun r1=>
  some (r1,(0:Int)))
  else
  ((k5 a1 b).bind fun r2=>
  (is1 r2).bind fun r3=>
  (oJ r3).bind fun r4=>
  some (r4,(0:Int)))))

def Ak(c:Int):Option Bool:=
 some (decide (c<(0:Int)))

def nm(a1:ac)(b:ac):Option (ac×Int):=
 (p9 a1 b Ak).bind fun r=>
 some (r.1,r.2)

def mw(do1:(ac→Option (ac×Int)))(a1:ac)(x:ac):Option (ac×Int):=
 (do1 a1).bind fun r=>
 some (r.1,r.2)

def zF(do1:(ac→Option (ac×Int))):Option (ac→ac→Option (ac×Int)):=
 some (mw do1)

def nQ(n:Int):Option ac:=
 some (⟨(2:Int),n,(0:Int),[]⟩:ac)

def jS(kind:Int):List ac→Int→Option Int
  |[],e=>
    some e
  |e1::tl,e=>
    (kQ e1).bind fun r=>
    if(r !=(0:Int))then
    (some (120:Int))
    else
    (if((e1.Kind !=(0:Int))&&(e1.Kind !=kind))then
    ((jS kind tl) (2:Int))
    else
    ((jS kind tl) e))

def pc(kind:Int)(l:(List ac)):Option Int:=
 jS kind l (0:Int)

def rd(a1:ac)(b:ac)(to1:(Int→Int→Option (Int×Bool))):Option (ac×Int):=
  (pc (2:Int) ([a1,b])).bind fun r=>
  if(r !=(0:Int))then
  (some ((⟨(0:Int),(0:Int),(0:Int),[]⟩:ac),r))
  else
  (if((a1.Kind==(0:Int))||(b.Kind==(0:Int)))then
  ((oI).bind fun r1=>
  some (r1,(0:Int)))
  else
  ((to1 a1.N b.N).bind fun r2=>
  if(!r2.2)then
  (some ((⟨(0:Int),(0:Int),(0:Int),[]⟩:ac),(140:Int)))
  else
  ((nQ r2.1).bind fun r3=>
  some (r3,(0:Int)))))

def pe(a1:Int)(b:Int):Option (Int×Bool):=
 some ((IntKind.i64.wrap (a1-b)),decide ((0:Int)≤(fm .and .i64 (fm .xor .i64 a1 b) (fm .xor .i64 a1 (IntKind.i64.wrap (a1-b))))))

def vf(a1:ac)(b:ac):Option (ac×Int):=
 (rd a1 b pe).bind fun r=>
 some (r.1,r.2)

def yd(a1:ac):Option (ac×Int):=
 (nQ (0:Int)).bind fun r=>
 (vf r a1).bind fun r1=>
 some (r1.1,r1.2)

def wQ(v:ac):Option Int:=
 if(v.Kind==(0:Int))then
 (some (1:Int))
 else
 (some (IntKind.i64.wrap ((2:Int)*v.N)))

def lA(to1:((List Int)→Option Int)):List ac→(List Int)→ac→Option (ac×Int)
  |[],n,x=>
    (to1 n).bind fun r1=>
    (cE gv2 r1).bind fun e1=>
    some (e1,(0:Int))
  |e::tl,n,x=>
    if(decide ((1:Int)<e.Kind))then
    (some ((⟨(0:Int),(0:Int),(0:Int),[]⟩:ac),(2:Int)))
    else
    ((wQ e).bind fun r2=>
    (app n ([r2])).bind fun n1=>
    (lA to1 tl) n1 x)

def nl(to1:((List Int)→Option Int))(l:(List ac)):Option (ac×Int):=
 (o4 l).bind fun r=>
 if(r !=(0:Int))then
 (some ((⟨(0:Int),(0:Int),(0:Int),[]⟩:ac),r))
 else
 (lA to1 l ([]:List Int) (⟨(0:Int),(0:Int),(0:Int),[]⟩:ac))

def Cm(l:(List Int)):Option Int:=
 (cE l (0:Int)).bind fun e=>
 some (IntKind.i64.wrap ((2:Int)-e))

def qa(a1:ac):Option (ac×Int):=
 (nl Cm ([a1])).bind fun r=>
 some (r.1,r.2)

def nH(is1:Bool)(a1:ac)(x:ac):Option (ac×Int):=
 (oJ ((a1.Kind==(0:Int))==is1)).bind fun r=>
 some (r,(0:Int))

def BQ(is1:Bool):Option (ac→ac→Option (ac×Int)):=
 some (nH is1)

def re(a1:Int)(b:Int):Option (Int×Bool):=
 some ((IntKind.i64.wrap (a1+b)),decide ((0:Int)≤(fm .and .i64 (fm .xor .i64 a1 (IntKind.i64.wrap (a1+b))) (fm .xor .i64 b (IntKind.i64.wrap (a1+b))))))

def B2(a1:ac)(b:ac):Option (ac×Int):=
 (rd a1 b re).bind fun r=>
 some (r.1,r.2)

def mL(p:Int)(y:Int):Option (Int×Int):=
 some ((IntKind.u64.wrap ((IntKind.u64.wrap ((IntKind.u64.wrap (((p).fdiv (2^(min (Int.toNat (32:Int)) IntKind.u64.bits)))*((y).fdiv (2^(min (Int.toNat (32:Int)) IntKind.u64.bits)))))+(((IntKind.u64.wrap ((IntKind.u64.wrap (((p).fdiv (2^(min (Int.toNat (32:Int)) IntKind.u64.bits)))*(fm .and .u64 y (4294967295:Int))))+(((IntKind.u64.wrap ((fm .and .u64 p (4294967295:Int))*(fm .and .u64 y (4294967295:Int))))).fdiv (2^(min (Int.toNat (32:Int)) IntKind.u64.bits)))))).fdiv (2^(min (Int.toNat (32:Int)) IntKind.u64.bits)))))+(((IntKind.u64.wrap ((fm .and .u64 (IntKind.u64.wrap ((IntKind.u64.wrap (((p).fdiv (2^(min (Int.toNat (32:Int)) IntKind.u64.bits)))*(fm .and .u64 y (4294967295:Int))))+(((IntKind.u64.wrap ((fm .and .u64 p (4294967295:Int))*(fm .and .u64 y (4294967295:Int))))).fdiv (2^(min (Int.toNat (32:Int)) IntKind.u64.bits))))) (4294967295:Int))+(IntKind.u64.wrap ((fm .and .u64 p (4294967295:Int))*((y).fdiv (2^(min (Int.toNat (32:Int)) IntKind.u64.bits)))))))).fdiv (2^(min (Int.toNat (32:Int)) IntKind.u64.bits))))),(IntKind.u64.wrap (p*y)))

def oZ(n:Int):Option Int:=
 if(decide (n<(0:Int)))then
 (some (IntKind.u64.wrap (0-(IntKind.u64.wrap n))))
 else
 (some (IntKind.u64.wrap n))

def mF(u:Int)(below:Bool):Option (Int×Bool):=
 if below then
 (some ((IntKind.i64.wrap (IntKind.u64.wrap (0-u))),decide (u≤(9223372036854775808:Int))))
 else
 (some ((IntKind.i64.wrap u),decide (u≤(9223372036854775807:Int))))

def mb(a1:Int)(b:Int):Option (Int×Bool):=
 (oZ a1).bind fun r=>
 (oZ b).bind fun r1=>
 (mL r r1).bind fun r2=>
 (mF r2.2 ((decide (a1<(0:Int))) !=(decide (b<(0:Int))))).bind fun r3=>
 some (r3.1,(r3.2&&(r2.1==(0:Int))))

def BZ(a1:ac)(b:ac):Option (ac×Int):=
 (rd a1 b mb).bind fun r=>
 some (r.1,r.2)

def md(a1:Int)(b:Int):Option (Int×Bool):=
  if(b==(0:Int))then
  (some ((0:Int),false))
  else
  ((oZ a1).bind fun r=>
  (oZ b).bind fun r1=>
  (nz r1).bind fun _=>
  (mF (IntKind.u64.wrap ((r).tdiv r1)) ((decide (a1<(0:Int))) !=(decide (b<(0:Int))))).bind fun r2=>
  some (r2.1,r2.2))

def B0(a1:ac)(b:ac):Option (ac×Int):=
 (rd a1 b md).bind fun r=>
 some (r.1,r.2)

def yK(c:Int):Option Bool:=
 some (c==(0:Int))

def qO(a1:ac)(b:ac):Option (ac×Int):=
 (p9 a1 b yK).bind fun r=>
 some (r.1,r.2)

def s6(do1:(ac→ac→Option (ac×Int)))(a1:ac)(b:ac):Option (ac×Int):=
  (do1 a1 b).bind fun r=>
  if(r.2 !=(0:Int))then
  (some (r.1,r.2))
  else
  ((qa r.1).bind fun r1=>
  some (r1.1,r1.2))

def AW(do1:(ac→ac→Option (ac×Int))):Option (ac→ac→Option (ac×Int)):=
 some (s6 do1)

def Cn(l:(List Int)):Option Int:=
 (cE l (0:Int)).bind fun e=>
 (cE l (1:Int)).bind fun e1=>
 some (min e e1)

def sd(a1:ac)(b:ac):Option (ac×Int):=
 (nl Cn ([a1,b])).bind fun r=>
 some (r.1,r.2)

def DD(l:(List Int)):Option Int:=
 (cE l (0:Int)).bind fun e=>
 (cE l (1:Int)).bind fun e1=>
 some (max e e1)

def uJ(a1:ac)(b:ac):Option (ac×Int):=
 (nl DD ([a1,b])).bind fun r=>
 some (r.1,r.2)

def xX:Option (List (Int×(ac→ac→Option (ac×Int)))):=
 (CA nm).bind fun r=>
 (zF yd).bind fun r1=>
 (zF qa).bind fun r2=>
 (BQ true).bind fun r3=>
 (BQ false).bind fun r4=>
 (AW qO).bind fun r5=>
 (AW r).bind fun r6=>
 (AW nm).bind fun r7=>
 some (dw (dw (dw (dw (dw (dw (dw (dw (dw (dw (dw (dw (dw (dw (dw (dw ([]:List (Int×(ac→ac→Option (ac×Int)))) (4:Int) r1) (5:Int) r2) (6:Int) r3) (7:Int) r4) (12:Int) B2) (13:Int) vf) (14:Int) BZ) (15:Int) B0) (16:Int) qO) (17:Int) r5) (18:Int) nm) (20:Int) r) (19:Int) r6) (21:Int) r7) (22:Int) sd) (23:Int) uJ)

def fK(s:(List ac)):Option (List ac):=
 (app ([]:List ac) s).bind fun x=>
 some x

def kw(stack:(List ac))(k:Int):Option ((List ac)×(List ac)):=
 (dx stack (IntKind.i64.wrap ((stack.length:Int)-k)) (stack.length:Int)).bind fun y=>
 (fK y).bind fun r=>
 (dx stack 0 (IntKind.i64.wrap ((stack.length:Int)-k))).bind fun y1=>
 some (r,y1)

def gu(bad:Int)(stack:List ac):Option (ac×Int):=
  if(bad !=(0:Int))then
  (some ((⟨(0:Int),(0:Int),(0:Int),[]⟩:ac),bad))
  else
  ((cE stack (0:Int)).bind fun e1=>
  some (e1,(0:Int)))

def dI(do1:(bo→(List ac)→Option (ac×Int))):List bo→Int→(List ac)→Option (ac×Int)
  |[],bad1,stack1=>
    gu bad1 stack1
  |e2::tl,bad1,stack1=>
    (oY e2.Tag).bind fun r=>
    (kw stack1 r).bind fun r1=>
    (do1 e2 r1.1).bind fun r2=>
    if(r2.2 !=(0:Int))then
    (gu r2.2 r1.2)
    else
    ((app r1.2 ([r2.1])).bind fun l2=>
    (dI do1 tl) bad1 l2)

def iB(e:bL)(do1:(bo→(List ac)→Option (ac×Int))):Option (ac×Int):=
 dI do1 e.Nodes (0:Int) ([]:List ac)

def pO(r1:ac×Int)(no:Int):Option (ac×Int):=
 some (r1.1,no)

def iI(r:(List ac))(do1:(List (Int×(ac→ac→Option (ac×Int)))))(n:bo)(l:(List ac)):Option (ac×Int):=
  if(n.Tag==(1:Int))then
  (some (n.Value,(0:Int)))
  else
  (if(n.Tag==(2:Int))then
  ((cE r n.Col).bind fun e=>
  some (e,(0:Int)))
  else
  ((cE l (0:Int)).bind fun e1=>
  (cE l (IntKind.i64.wrap ((l.length:Int)-(1:Int)))).bind fun e2=>
  (((oR do1 n.Tag).getD (fun _ _=>none)) e1 e2).bind fun r1=>
  if((r1.2 !=(0:Int))&&(r1.2 !=(140:Int)))then
  (pO r1 (201:Int))
  else
  (pO r1 r1.2)))

def nV(e:bL)(r:(List ac)):List Int→ac→Option (ac×Int)
  |[],x=>
    (xX).bind fun r3=>
    (iB e (iI r r3)).bind fun r4=>
    some (r4.1,r4.2)
  |e1::tl,x=>
    (if(!(decide ((r.length:Int)≤e1)))then((cE r e1).bind fun e2=>
    (lX e2).bind fun r5=>
    some (!r5))else some true).bind fun t=>
    if t then
    (some ((⟨(0:Int),(0:Int),(0:Int),[]⟩:ac),(2:Int)))
    else
    ((nV e r tl) x)

def sn(e:bL)(r:(List ac)):Option (ac×Int):=
  (qt e).bind fun r1=>
  if(r1 !=(0:Int))then
  (some ((⟨(0:Int),(0:Int),(0:Int),[]⟩:ac),r1))
  else
  ((sq e).bind fun r2=>
  nV e r r2 (⟨(0:Int),(0:Int),(0:Int),[]⟩:ac))

def vu(a1:ac):Option Bool:=
 (oJ true).bind fun r=>
 some (decide (a1=r))

def pP(e:bL)(r:(List ac)):Option (Bool×Int):=
 (sn e r).bind fun r1=>
 (vu r1.1).bind fun r2=>
 some (r2,r1.2)

def gQ(n:am)(x:Int×(List ac))(xs:List (List ac))(xs1:List Bool)(x1:Int)(x2:(List (List ac))):Option (Option Nat×(List (List ac)×List Bool×Int×(List (List ac)))):=
  (pP n.Cond x.2).bind fun r3=>
  if(r3.2 !=(0:Int))then
  (some (some 0,(xs,xs1,r3.2,[])))
  else
  (if r3.1 then
  ((cE xs1 x.1).bind fun e2=>
  (some (xs1.set x.1.toNat true)).bind fun st=>
  (app xs ([x.2])).bind fun l2=>
  some (none,(l2,st,x1,x2)))
  else
  (some (none,(xs,xs1,x1,x2))))

def gO(r:cX)(n:am)(r1:(Option Nat×(List (List ac)×List Bool×Int×(List (List ac))))×Unit):List (List ac)→Nat→(List (List ac))→Option ((List (List ac))×Int)
  |[],i2,out=>
    some (out,(0:Int))
  |e3::tl,i2,out=>
    (if n.Left then((cE r1.1.2.2.1 (i2:Int)).bind fun e4=>
    some (!e4))else some false).bind fun t=>
    if t then
    ((cE r.width n.B).bind fun e5=>
    (nk e5 (⟨(0:Int),(0:Int),(0:Int),[]⟩:ac)).bind fun mk1=>
    (dD ([e3,mk1])).bind fun r4=>
    (app out ([r4])).bind fun l7=>
    (gO r n r1 tl) (i2+1) l7)
    else
    ((gO r n r1 tl) (i2+1) out)

def jB(r:cX)(n:am):Option ((List (List ac))×Int):=
  (cE r.rows n.A).bind fun e=>
  (cE r.rows n.B).bind fun e1=>
  if(decide ((40000:Int)<(IntKind.i64.wrap ((e.length:Int)*(e1.length:Int)))))then
  (some ([],(3:Int)))
  else
  ((nk (e.length:Int) false).bind fun mk=>
  (vT e e1).bind fun it=>
  ((itU it) (Option Nat×(List (List ac)×List Bool×Int×(List (List ac)))) (wm (fun x s=>gQ n x s.1 s.2.1 s.2.2.1 s.2.2.2)) (none,(([]:List (List ac)),mk,(0:Int),[]))).bind fun r1=>
  if r1.1.1.isNone then
  (gO r n r1 e 0 r1.1.2.1)
  else
  (some (r1.1.2.2.2.2,r1.1.2.2.2.1)))

def fZ(n:am):List (List ac)→(List (List ac))→Option ((List (List ac))×Int)
  |[],out=>
    some (out,(0:Int))
  |e1::tl,out=>
    (pP n.Cond e1).bind fun r1=>
    if(r1.2 !=(0:Int))then
    (some ([],r1.2))
    else
    (if r1.1 then
    ((app out ([e1])).bind fun out1=>
    (fZ n tl) out1)
    else
    ((fZ n tl) out))

def jy(r:cX)(n:am):Option ((List (List ac))×Int):=
 (cE r.rows n.A).bind fun e=>
 fZ n e ([]:List (List ac))

def jr(a1:hY):List (List ac)→(List ac)→Int→Option ((List ac)×Int)
  |[],out,fault=>
    some (out,fault)
  |e::tl,out,fault=>
    (sn a1.Arg e).bind fun r=>
    if(r.2==(140:Int))then
    ((jr a1 tl) out r.2)
    else
    (if(r.2 !=(0:Int))then
    (some ([],(2:Int)))
    else
    (if(r.1.Kind !=(0:Int))then
    ((app out ([r.1])).bind fun out1=>
    (jr a1 tl) out1 fault)
    else
    ((jr a1 tl) out fault)))

def xn(a1:hY)(rows:(List (List ac))):Option ((List ac)×Int):=
 jr a1 rows ([]:List ac) (0:Int)

def mB(v:ac):Option Bool:=
 some (v.Kind !=(2:Int))

def c0(f:(ac→Option Bool)):List ac→Nat→Option Int
 |[],i=>
  some (-1:Int)
 |e::tl,i=>
  (f e).bind fun r=>
  if r then
  (some (i:Int))
  else
  ((c0 f tl) (i+1))

def gv(s:(List ac))(f:(ac→Option Bool)):Option Int:=
 c0 f s 0

def d6(s:(List ac))(f:(ac→Option Bool)):Option Bool:=
 (gv s f).bind fun r=>
 some (decide ((0:Int)≤r))

def qx(v:ac):Option ac:=
 some (⟨(4:Int),((v.N).fdiv (2^(min (Int.toNat (63:Int)) IntKind.i64.bits))),(IntKind.u64.wrap v.N),[]⟩:ac)

def vX(s:ac)(t:ac):Option (ac×Int):=
 (KI s.U t.U (0:Int)).bind fun r=>
 (KI (IntKind.u64.wrap s.N) (IntKind.u64.wrap t.N) r.2).bind fun r1=>
 if(decide ((fm .and .i64 (fm .xor .i64 s.N (IntKind.i64.wrap r1.1)) (fm .xor .i64 t.N (IntKind.i64.wrap r1.1)))<(0:Int)))then
 (some ((⟨(0:Int),(0:Int),(0:Int),[]⟩:ac),(140:Int)))
 else
 (some ((⟨(4:Int),(IntKind.i64.wrap r1.1),r.1,[]⟩:ac),(0:Int)))

def sr(s:ac)(v:ac):Option (ac×Int):=
  (pc (4:Int) ([s])).bind fun r=>
  (pc (2:Int) ([v])).bind fun r1=>
  if((r==(120:Int))||(r1==(120:Int)))then
  (some ((⟨(0:Int),(0:Int),(0:Int),[]⟩:ac),(120:Int)))
  else
  (if((r !=(0:Int))||(r1 !=(0:Int)))then
  (some ((⟨(0:Int),(0:Int),(0:Int),[]⟩:ac),(2:Int)))
  else
  (if(v.Kind==(0:Int))then
  (some (s,(0:Int)))
  else
  (if(s.Kind==(0:Int))then
  ((qx v).bind fun r2=>
  some (r2,(0:Int)))
  else
  ((qx v).bind fun r3=>
  (vX s r3).bind fun r4=>
  some (r4.1,r4.2)))))

def ye(s:ac):Option (ac×Int):=
  (pc (4:Int) ([s])).bind fun r=>
  if(r !=(0:Int))then
  (some ((⟨(0:Int),(0:Int),(0:Int),[]⟩:ac),r))
  else
  (if(s.Kind==(0:Int))then
  (some (s,(0:Int)))
  else
  ((nQ (IntKind.i64.wrap s.U)).bind fun r1=>
  (qx r1).bind fun r2=>
  if(decide (r2=s))then
  (some (r1,(0:Int)))
  else
  (some ((⟨(0:Int),(0:Int),(0:Int),[]⟩:ac),(140:Int)))))

def mG:List ac→ac→ac→Option (ac×Int)
 |[],x,s=>
  (ye s).bind fun r1=>
  some (r1.1,r1.2)
 |e::tl,x,s=>
  (sr s e).bind fun r2=>
  if(r2.2 !=(0:Int))then
  (some (r2.1,r2.2))
  else
  ((mG tl) x r2.1)

def yf(l:(List ac)):Option (ac×Int):=
  if(decide ((1048576:Int)<(l.length:Int)))then
  (some ((⟨(0:Int),(0:Int),(0:Int),[]⟩:ac),(3:Int)))
  else
  ((oI).bind fun r=>
  mG l (⟨(0:Int),(0:Int),(0:Int),[]⟩:ac) r)

def cF(cmp:(ac→ac→Option Int)):List ac→ac→Option ac
 |[],m=>
  some m
 |e1::tl,m=>
  (cmp e1 m).bind fun r=>
  if(decide (r<(0:Int)))then
  ((cF cmp tl) e1)
  else
  ((cF cmp tl) m)

def gi(p:(List ac))(cmp:(ac→ac→Option Int)):Option ac:=
 (cE p (0:Int)).bind fun e=>
 cF cmp (p.drop (1)) e

def eU(p:(List ac))(cmp:(ac→ac→Option Int)):Option ac:=
 if(decide ((p.length:Int)<(1:Int)))then
 (none)
 else
 (gi p cmp)

def qR(v:ac):Option Bool:=
 (kQ v).bind fun r=>
 some (r !=(0:Int))

def cH(f:(ac→Option Bool)):List ac→Nat→Option Int
 |[],i=>
  some (-1:Int)
 |e::tl,i=>
  (f e).bind fun r=>
  if r then
  (some (i:Int))
  else
  ((cH f tl) (i+1))

def ki(s:(List ac))(f:(ac→Option Bool)):Option Int:=
 cH f s 0

def gk(s:(List ac))(f:(ac→Option Bool)):Option Bool:=
 (ki s f).bind fun r=>
 some (decide ((0:Int)≤r))

def qd(r:(List ac)):Option Bool:=
  (if(decide ((r.length:Int)≤(16:Int)))then((gk r qR).bind fun r1=>
  some (!r1))else some false).bind fun t=>
  some t

def bF(s1:(List ac))(s2:(List ac))(cmp:(ac→ac→Option Int)):List ac→Nat→Option Int
  |[],i=>
    if(decide ((s1.length:Int)<(s2.length:Int)))then
    (some (-1:Int))
    else
    (some (0:Int))
  |e::tl,i=>
    if(decide ((s2.length:Int)≤(i:Int)))then
    (some (1:Int))
    else
    ((cE s2 (i:Int)).bind fun e1=>
    (cmp e e1).bind fun r=>
    if(r !=(0:Int))then
    (some r)
    else
    ((bF s1 s2 cmp tl) (i+1)))

def cu(s1:(List ac))(s2:(List ac))(cmp:(ac→ac→Option Int)):Option Int:=
 bF s1 s2 cmp s1 0

def nX(p:Int):Option Bool:=
 some (p !=p)

def mD(p:Int)(y:Int):Option Int:=
  (nX p).bind fun r=>
  (nX y).bind fun r1=>
  if r then
  (if r1 then
  (some (0:Int))
  else
  (some (-1:Int)))
  else
  (if r1 then
  (some (1:Int))
  else
  (if(decide (p<y))then
  (some (-1:Int))
  else
  (if(decide (y<p))then
  (some (1:Int))
  else
  (some (0:Int)))))

def nY(p:wz):Option Bool:=
 some (!(p==p))

def mE(p:wz)(y:wz):Option Int:=
  (nY p).bind fun r=>
  (nY y).bind fun r1=>
  if r then
  (if r1 then
  (some (0:Int))
  else
  (some (-1:Int)))
  else
  (if r1 then
  (some (1:Int))
  else
  (if(Op.bytesLess p y)then
  (some (-1:Int))
  else
  (if(!(Op.bytesLess p y||p==y))then
  (some (1:Int))
  else
  (some (0:Int)))))

def oN(a1:ac)(b:ac):Option Int:=
 (gH a1.Kind b.Kind).bind fun r=>
 (gC a1.N b.N).bind fun r1=>
 (mD a1.U b.U).bind fun r2=>
 (mE a1.S b.S).bind fun r3=>
 (mC ([r,r1,r2,r3])).bind fun r4=>
 some r4

def o6(a1:(List ac))(b:(List ac)):Option Int:=
 (cu a1 b oN).bind fun r=>
 some r

def o8(a1:(List ac))(b:(List ac)):Option Int:=
  (qd a1).bind fun r=>
  (if(!(!r))then((qd b).bind fun r1=>
  some (!r1))else some true).bind fun t=>
  if t then
  (some (0:Int))
  else
  ((o6 a1 b).bind fun r2=>
  some r2)

def ie(a1:ac)(b:ac):Option Int:=
 (o8 ([a1]) ([b])).bind fun r=>
 some r

def cG(cmp:(ac→ac→Option Int)):List ac→ac→Option ac
 |[],m=>
  some m
 |e1::tl,m=>
  (cmp e1 m).bind fun r=>
  if(decide ((0:Int)<r))then
  ((cG cmp tl) e1)
  else
  ((cG cmp tl) m)

def gj(p:(List ac))(cmp:(ac→ac→Option Int)):Option ac:=
 (cE p (0:Int)).bind fun e=>
 cG cmp (p.drop (1)) e

def eV(p:(List ac))(cmp:(ac→ac→Option Int)):Option ac:=
 if(decide ((p.length:Int)<(1:Int)))then
 (none)
 else
 (gj p cmp)

def lT(a1:hY)(rows:(List (List ac))):Option (ac×Int):=
  if(a1.Tag==(1:Int))then
  ((nQ (rows.length:Int)).bind fun r=>
  some (r,(0:Int)))
  else
  ((xn a1 rows).bind fun r1=>
  if(r1.2==(2:Int))then
  (some ((⟨(0:Int),(0:Int),(0:Int),[]⟩:ac),r1.2))
  else
  ((if(a1.Tag==(3:Int))then((d6 r1.1 mB).bind fun r2=>
  some r2)else some false).bind fun t=>
  if t then
  (some ((⟨(0:Int),(0:Int),(0:Int),[]⟩:ac),(2:Int)))
  else
  (if(r1.2 !=(0:Int))then
  (some ((⟨(0:Int),(0:Int),(0:Int),[]⟩:ac),r1.2))
  else
  (if(a1.Tag==(2:Int))then
  ((nQ (r1.1.length:Int)).bind fun r3=>
  some (r3,(0:Int)))
  else
  (if(a1.Tag==(3:Int))then
  ((yf r1.1).bind fun r4=>
  some (r4.1,r4.2))
  else
  (if((r1.1.length:Int)==(0:Int))then
  (some ((⟨(0:Int),(0:Int),(0:Int),[]⟩:ac),(0:Int)))
  else
  (if(a1.Tag==(4:Int))then
  ((eU r1.1 ie).bind fun r5=>
  some (r5,(0:Int)))
  else
  ((eV r1.1 ie).bind fun r6=>
  some (r6,(0:Int))))))))))

def pz(nx:Int→Option Int)(e:(List (List ac)))(n:Int):List (List ac)→Option Int
 |[]=>
  nx (max n (e.length:Int))
 |e1::tl1=>
  (qd e1).bind fun r=>
  if(!r)then
  (some (150:Int))
  else
  ((pz nx e n tl1))

def kT:List (List (List ac))→Int→Option Int
 |[],n=>
  if(decide ((8000:Int)<n))then
  (some (3:Int))
  else
  (some (0:Int))
 |e::tl,n=>
  pz (kT tl) e n e

def uP(l:(List (List (List ac)))):Option Int:=
 kT l (0:Int)

def tI(c:Int):Option Bool:=
 some (decide (c<(0:Int)))

def xH(r:(List ac))(c:Int):Option Bool:=
 some ((decide (c<(0:Int)))||(decide ((r.length:Int)≤c)))

def C4(r:(List ac))(columns:(List Int)):Option Bool:=
  (if(decide ((columns.length:Int)≤(16:Int)))then((cA columns (xH r)).bind fun r1=>
  some (!r1))else some false).bind fun t=>
  some t

def pC(columns:(List Int)):List (List ac)→Option Int
 |[]=>
  some (0:Int)
 |e::tl=>
  (C4 e columns).bind fun r2=>
  if(!r2)then
  (some (2:Int))
  else
  ((pC columns tl))

def xI(l:(List (List ac)))(columns:(List Int)):Option Int:=
  (uP ([l])).bind fun r=>
  if(r !=(0:Int))then
  (some r)
  else
  ((if(!(decide ((16:Int)<(columns.length:Int))))then((cA columns tI).bind fun r1=>
  some r1)else some true).bind fun t=>
  if t then
  (some (2:Int))
  else
  (pC columns l))

def cz(s:(List ac)):Option (List ac):=
 (app ([]:List ac) s).bind fun x=>
 some x

def mX:List (List ac)→(List (List ac))→Option (List (List ac))
 |[],out=>
  some out
 |e::tl,out=>
  (cz e).bind fun r=>
  (app out ([r])).bind fun out1=>
  (mX tl) out1

def sF(l:(List (List ac))):Option (List (List ac)):=
 mX l ([]:List (List ac))

def lY(r:(List ac)):List Int→(List ac)→Option (List ac)
 |[],out=>
  some out
 |e::tl,out=>
  (cE r e).bind fun e1=>
  (app out ([e1])).bind fun out1=>
  (lY r tl) out1

def nr(r:(List ac))(columns:(List Int)):Option (List ac):=
 lY r columns ([]:List ac)

def mj(columns:(List Int))(a1:(List ac))(b:(List ac)):Option Int:=
 (nr a1 columns).bind fun r=>
 (nr b columns).bind fun r1=>
 (o6 r r1).bind fun r2=>
 (o6 a1 b).bind fun r3=>
 (mC ([r2,r3])).bind fun r4=>
 some r4

def d4(s2:(List ac)):List ac→Nat→Option Bool
 |[],i=>
  some true
 |e::tl,i=>
  (cE s2 (i:Int)).bind fun e1=>
  if(!decide (e=e1))then
  (some false)
  else
  ((d4 s2 tl) (i+1))

def iT(s1:(List ac))(s2:(List ac)):Option Bool:=
 if((s1.length:Int) !=(s2.length:Int))then
 (some false)
 else
 (d4 s2 s1 0)

def o7(a1:(List ac))(b:(List ac)):Option Bool:=
 (iT a1 b).bind fun r=>
 some r

def gn(columns:(List Int))(a1:(List ac))(b:(List ac)):Option Bool:=
 (nr a1 columns).bind fun r=>
 (nr b columns).bind fun r1=>
 (o7 r r1).bind fun r2=>
 some r2

def mW{Sg:Type}(alike:((List ac)→(List ac)→Option Bool))(yld:(List (List ac))→Sg→Option (Bool×Sg))(nx:Sg→(List (List ac))→Option Sg)(s1:Sg)(x:(List (List ac))):Nat→Int→Option Sg
  |0,_=>none
  |n2+1,n1=>
    (if(decide (n1<(x.length:Int)))then((cE x (0:Int)).bind fun e2=>
    (cE x n1).bind fun e3=>
    (alike e2 e3).bind fun r=>
    some r)else some false).bind fun t=>
    if t then
    ((mW alike yld nx s1 x n2) (IntKind.i64.wrap (n1+(1:Int))))
    else
    ((dx x 0 n1).bind fun y=>
    (yld (y) s1).bind fun r1=>
    if(!r1.1)then
    (some r1.2)
    else
    ((dx x n1 (x.length:Int)).bind fun y1=>
    nx r1.2 y1))

def jV{Sg:Type}(alike:((List ac)→(List ac)→Option Bool))(yld:(List (List ac))→Sg→Option (Bool×Sg)):Nat→Sg→(List (List ac))→Option Sg
 |0,_,_=>none
 |n+1,s1,x=>
  if(decide ((0:Int)<(x.length:Int)))then
  (mW alike yld (jV alike yld n) s1 x ge (1:Int))
  else
  (some s1)

def vA{Sg:Type}(l:(List (List ac)))(alike:((List ac)→(List ac)→Option Bool))(yld:(List (List ac))→Sg→Option (Bool×Sg))(s:Sg):Option Sg:=
 jV alike yld ge s l

def D6(l:(List (List ac)))(alike:((List ac)→(List ac)→Option Bool)):Option (It (List (List ac))):=
 some (fun _=>vA l alike)

def ff(s:(List (List ac))):Option (List (List ac)):=
 (app ([]:List (List ac)) s).bind fun x=>
 some x

def jW(columns:(List Int))(x:(List (List ac)))(xs:List hU):Option (List hU):=
 (cE x (0:Int)).bind fun e=>
 (nr e columns).bind fun r2=>
 (ff x).bind fun r3=>
 (app xs ([(⟨r2,r3⟩:hU)])).bind fun l3=>
 some l3

def sG(l:(List (List ac)))(columns:(List Int)):Option ((List hU)×Int):=
  (xI l columns).bind fun r=>
  if(r !=(0:Int))then
  (some ([],r))
  else
  ((sF l).bind fun r1=>
  (yO (fun(x:(List ac)×(List ac))=>(mj columns) x.1 x.2) r1).bind fun tt=>
  (D6 tt (gn columns)).bind fun it=>
  (it (List hU) (CJ (fun x s=>jW columns x s)) ([]:List hU)).bind fun xs1=>
  some (xs1,(0:Int)))

def iC(nx:(List (List ac))→Option ((List (List ac))×Int))(e1:hU)(out:List (List ac)):List hY→(List ac)→Option ((List (List ac))×Int)
  |[],x=>
    (app out ([x])).bind fun out1=>
    nx out1
  |e2::tl1,x=>
    (lT e2 e1.Rows).bind fun r3=>
    if(r3.2 !=(0:Int))then
    (some ([],r3.2))
    else
    ((app x ([r3.1])).bind fun x1=>
    (iC nx e1 out tl1) x1)

def fC(n:am):List hU→(List (List ac))→Option ((List (List ac))×Int)
 |[],out=>
  some (out,(0:Int))
 |e1::tl,out=>
  (cz e1.Key).bind fun r2=>
  iC (fC n tl) e1 out n.Aggs r2

def lw(n:am)(groups:(List hU)):Option ((List (List ac))×Int):=
 fC n groups ([]:List (List ac))

def i7(r:cX)(n:am):Option ((List (List ac))×Int):=
  (cE r.rows n.A).bind fun e=>
  (sG e n.Keys).bind fun r1=>
  if(r1.2 !=(0:Int))then
  (some ([],r1.2))
  else
  (if(((n.Keys.length:Int)==(0:Int))&&((r1.1.length:Int)==(0:Int)))then
  (lw n ([(⟨[],[]⟩:hU)]))
  else
  (lw n r1.1))

def gE(nx:(List (List ac))→Option ((List (List ac))×Int))(e1:(List ac))(out:List (List ac)):List bL→(List ac)→Option ((List (List ac))×Int)
  |[],y=>
    (app out ([y])).bind fun out1=>
    nx out1
  |e2::tl1,y=>
    (sn e2 e1).bind fun r1=>
    if(r1.2 !=(0:Int))then
    (some ([],r1.2))
    else
    ((app y ([r1.1])).bind fun y1=>
    (gE nx e1 out tl1) y1)

def fE(n:am):List (List ac)→(List (List ac))→Option ((List (List ac))×Int)
 |[],out=>
  some (out,(0:Int))
 |e1::tl,out=>
  gE (fE n tl) e1 out n.Items ([]:List ac)

def i6(r:cX)(n:am):Option ((List (List ac))×Int):=
 (cE r.rows n.A).bind fun e=>
 fE n e ([]:List (List ac))

def sE(l:(List (List ac))):Option (List (List ac)):=
 (sF l).bind fun r=>
 (yO (fun(x:(List ac)×(List ac))=>o6 x.1 x.2) r).bind fun tt=>
 some tt

def ce(eq:((List ac)→(List ac)→Option Bool))(i:Nat)(y:List (List ac)):Nat→Nat→(List (List ac))→Int→Option (List (List ac))
  |0,i1,s1,k=>
    (dx s1 k (s1.length:Int)).bind fun y1=>
    (some (s1.take k.toNat++List.replicate y1.length ([]))).bind fun cl=>
    (dx cl 0 k).bind fun y2=>
    some y2
  |k2+1,i1,s1,k=>
    (xg s1 (i:Int) y.length (i1:Int)).bind fun e3=>
    (xg s1 (i:Int) y.length (IntKind.i64.wrap ((i1:Int)-(1:Int)))).bind fun e4=>
    (eq e3 e4).bind fun r1=>
    if(!r1)then
    ((xg s1 (i:Int) y.length (i1:Int)).bind fun e5=>
    (cE s1 k).bind fun e6=>
    (some (s1.set k.toNat e5)).bind fun st=>
    (ce eq i y k2) (i1+1) st (IntKind.i64.wrap (k+(1:Int))))
    else
    ((ce eq i y k2) (i1+1) s1 k)

def cI(s:(List (List ac)))(eq:((List ac)→(List ac)→Option Bool)):List (List ac)→Nat→Option (List (List ac))
  |[],i=>
    some s
  |e::tl,i=>
    (cE s (IntKind.i64.wrap ((i:Int)-(1:Int)))).bind fun e1=>
    (eq e e1).bind fun r=>
    if r then
    ((dx s (i:Int) (s.length:Int)).bind fun y=>
    ce eq i y (y.length-1) 1 s (i:Int))
    else
    ((cI s eq tl) (i+1))

def eY(s:(List (List ac)))(eq:((List ac)→(List ac)→Option Bool)):Option (List (List ac)):=
 if(decide ((s.length:Int)<(2:Int)))then
 (some s)
 else
 (cI s eq (s.drop (1)) 1)

def rM(l:(List (List ac))):Option ((List (List ac))×Int):=
  (uP ([l])).bind fun r=>
  if(r !=(0:Int))then
  (some ([],r))
  else
  ((sE l).bind fun r1=>
  (eY r1 o7).bind fun r2=>
  some (r2,(0:Int)))

def iD(r:cX)(n:am):Option ((List (List ac))×Int):=
 (cE r.rows n.A).bind fun e=>
 (rM e).bind fun r1=>
 some (r1.1,r1.2)

def iR(s:List (List ac)):Option (List (List ac)):=
 some s

def iS(n:Int):Option (List (List ac)):=
  if(decide ((0:Int)<(IntKind.i64.wrap (n-(IntKind.i64.wrap ((0:Int)-(0:Int)))))))then
  ((V4 (IntKind.i64.wrap (n-(IntKind.i64.wrap ((0:Int)-(0:Int)))))).bind fun _=>
  (nk (IntKind.i64.wrap (n-(IntKind.i64.wrap ((0:Int)-(0:Int))))) ([])).bind fun mk=>
  (dx mk 0 (0:Int)).bind fun y=>
  iR y)
  else
  (iR ([]:List (List ac)))

def gZ(n:Int):Option (List (List ac)):=
 if(decide (n<(0:Int)))then
 (none)
 else
 (iS n)

def fI:List (List (List ac))→(List (List ac))→Option (List (List ac))
 |[],newslice=>
  some newslice
 |e1::tl1,newslice=>
  (app newslice e1).bind fun newslice1=>
  (fI tl1) newslice1

def fJ(slices:(List (List (List ac)))):List (List (List ac))→Int→Option (List (List ac))
 |[],size=>
  (gZ size).bind fun r=>
  fI slices r
 |e::tl,size=>
  if(decide ((IntKind.i64.wrap (size+(e.length:Int)))<(0:Int)))then
  (none)
  else
  ((fJ slices tl) (IntKind.i64.wrap (size+(e.length:Int))))

def eQ(slices:(List (List (List ac)))):Option (List (List ac)):=
 fJ slices slices (0:Int)

def j6(r:cX)(n:am):Option ((List (List ac))×Int):=
 (cE r.rows n.A).bind fun e=>
 (cE r.rows n.B).bind fun e1=>
 (eQ ([e,e1])).bind fun r1=>
 some (r1,(0:Int))

def nJ(nx:Option Int)(n:Int):Option Int:=
 if(n !=(0:Int))then
 (some n)
 else
 (nx)

def jq(a1:(List ac))(b:(List ac)):List dn→Option Int
 |[]=>
  (o8 a1 b).bind fun r=>
  some r
 |e::tl=>
  (cE a1 e.Col).bind fun e1=>
  (cE b e.Col).bind fun e2=>
  (ie e1 e2).bind fun r1=>
  if e.Desc then
  (nJ (jq a1 b tl) (IntKind.i64.wrap (0-r1)))
  else
  (nJ (jq a1 b tl) r1)

def ma(order:(List dn))(a1:(List ac))(b:(List ac)):Option Int:=
 jq a1 b order

def vd(order:(List dn)):Option ((List ac)→(List ac)→Option Int):=
 some (ma order)

def nW(out1:List (List ac)):Option (List (List ac)):=
 some out1

def j5(order:(List dn))(limit:Int):List (List ac)→(List (List ac))→Option (List (List ac))
  |[],out=>
    (vd order).bind fun r=>
    (yO (fun(x:(List ac)×(List ac))=>r x.1 x.2) out).bind fun tt=>
    if((decide ((0:Int)≤limit))&&(decide (limit<(tt.length:Int))))then
    ((dx tt 0 limit).bind fun y=>
    nW y)
    else
    (nW tt)
  |e::tl,out=>
    (cz e).bind fun r1=>
    (app out ([r1])).bind fun out2=>
    (j5 order limit tl) out2

def m8(rows:(List (List ac)))(order:(List dn))(limit:Int):Option (List (List ac)):=
 j5 order limit rows ([]:List (List ac))

def j7(r:cX)(n:am):Option ((List (List ac))×Int):=
 (cE r.rows n.A).bind fun e=>
 (m8 e n.Order n.Limit).bind fun r1=>
 some (r1,(0:Int))

def vE(l:(List (List ac))):Option ((List (List ac))×Int):=
  (uP ([l])).bind fun r=>
  if(r !=(0:Int))then
  (some ([],r))
  else
  ((sE l).bind fun r1=>
  some (r1,(0:Int)))

def d9(s:(List dn)):Option (List dn):=
 (app ([]:List dn) s).bind fun x=>
 some x

def cm(s:(List bo)):Option (List bo):=
 (app ([]:List bo) s).bind fun x=>
 some x

def fg(s:(List hY)):Option (List hY):=
 (app ([]:List hY) s).bind fun x=>
 some x

def eF(s:(List bL)):Option (List bL):=
 (app ([]:List bL) s).bind fun x=>
 some x

def mM:List bL→Nat→am→Option am
 |[],i1,n4=>
  some n4
 |e1::tl1,i1,n4=>
  (cE n4.Items (i1:Int)).bind fun e2=>
  (cm e2.Nodes).bind fun r6=>
  (some (n4.Items.set (i1:Int).toNat ({e2 with Nodes:=r6}:bL))).bind fun st=>
  (mM tl1) (i1+1) ({n4 with Items:=st}:am)

def mN:List hY→Nat→am→Option am
 |[],i,n3=>
  mM n3.Items 0 n3
 |e::tl,i,n3=>
  (cE n3.Aggs (i:Int)).bind fun e3=>
  (cm e3.Arg.Nodes).bind fun r7=>
  (some (n3.Aggs.set (i:Int).toNat ({e3 with Arg:=({e3.Arg with Nodes:=r7}:bL)}:hY))).bind fun st1=>
  (mN tl) (i+1) ({n3 with Aggs:=st1}:am)

def mO(n2:am):Option am:=
 (cy n2.Kinds).bind fun r=>
 (cy n2.Keys).bind fun r1=>
 (d9 n2.Order).bind fun r2=>
 (cm (((am.mk n2.Op n2.A n2.B n2.Table r n2.Left n2.Cond r1 n2.Aggs n2.Items r2 n2.Limit).Cond).Nodes)).bind fun r3=>
 (fg (({(am.mk n2.Op n2.A n2.B n2.Table r n2.Left n2.Cond r1 n2.Aggs n2.Items r2 n2.Limit)with Cond:=({(am.mk n2.Op n2.A n2.B n2.Table r n2.Left n2.Cond r1 n2.Aggs n2.Items r2 n2.Limit).Cond with Nodes:=r3}:bL)}:am).Aggs)).bind fun r4=>
 (eF (({(am.mk n2.Op n2.A n2.B n2.Table r n2.Left n2.Cond r1 n2.Aggs n2.Items r2 n2.Limit)with Cond:=({(am.mk n2.Op n2.A n2.B n2.Table r n2.Left n2.Cond r1 n2.Aggs n2.Items r2 n2.Limit).Cond with Nodes:=r3}:bL)}:am).Items)).bind fun r5=>
 mN r4 0 ({({({(am.mk n2.Op n2.A n2.B n2.Table r n2.Left n2.Cond r1 n2.Aggs n2.Items r2 n2.Limit)with Cond:=({(am.mk n2.Op n2.A n2.B n2.Table r n2.Left n2.Cond r1 n2.Aggs n2.Items r2 n2.Limit).Cond with Nodes:=r3}:bL)}:am)with Aggs:=r4}:am)with Items:=r5}:am)

def oE(by1:Int)(n1:am):Option am:=
 if(decide ((0:Int)≤n1.B))then
 (mO (am.mk n1.Op n1.A (IntKind.i64.wrap (n1.B+by1)) n1.Table n1.Kinds n1.Left n1.Cond n1.Keys n1.Aggs n1.Items n1.Order n1.Limit))
 else
 (mO n1)

def rW(n:am)(by1:Int):Option am:=
 if(decide ((0:Int)≤n.A))then
 (oE by1 (am.mk n.Op (IntKind.i64.wrap (n.A+by1)) n.B n.Table n.Kinds n.Left n.Cond n.Keys n.Aggs n.Items n.Order n.Limit))
 else
 (oE by1 n)

def m5(l:bU)(place:Int)(e:Int):Nat→Int→bU→Option (bU×Int)
  |0,_,_=>none
  |n+1,i,out=>
    if(decide (i≤place))then
    ((cE l.Nodes i).bind fun e1=>
    (rW e1 (IntKind.i64.wrap (0-e))).bind fun r1=>
    (app out.Nodes ([r1])).bind fun l2=>
    (m5 l place e n) (IntKind.i64.wrap (i+(1:Int))) ({out with Nodes:=l2}:bU))
    else
    (some (out,(0:Int)))

def sT(l:bU)(place:Int):Option (bU×Int):=
  (oS l).bind fun r=>
  if(!r.2.2)then
  (some ((⟨[]⟩:bU),(230:Int)))
  else
  (if((decide (place<(0:Int)))||(decide ((l.Nodes.length:Int)≤place)))then
  (some ((⟨[]⟩:bU),(2:Int)))
  else
  ((cE r.1.first place).bind fun e=>
  m5 l place e ge e ({(⟨[]⟩:bU)with Nodes:=([]:List am)}:bU)))

def nK(l:bU)(nx:Nat→cX→Option ((List (List ac))×Int))(i:Nat)(r2:((List (List ac))×Int)×cX)(rows:(List (List ac))):Option ((List (List ac))×Int):=
 (sT l (i:Int)).bind fun r3=>
 (q5 r3.1).bind fun r4=>
 (app r2.2.rows ([rows])).bind fun l3=>
 (app r2.2.width ([(r4.1.length:Int)])).bind fun l4=>
 nx (i+1) ({({r2.2 with rows:=l3}:cX)with width:=l4}:cX)

def nL(l:bU)(nx:Nat→cX→Option ((List (List ac))×Int))(i:Nat)(e:am)(r2:((List (List ac))×Int)×cX)(e2:Int):Option ((List (List ac))×Int):=
  if(e2 !=(0:Int))then
  (some ([],e2))
  else
  (if(e.Op !=(8:Int))then
  ((vE r2.1.1).bind fun r5=>
  nK l nx i r2 r5.1)
  else
  (nK l nx i r2 r2.1.1))

def f9(l:bU):List am→Nat→cX→Option ((List (List ac))×Int)
 |[],i,ob=>
  (cE ob.rows (IntKind.i64.wrap ((ob.rows.length:Int)-(1:Int)))).bind fun e1=>
  some (e1,(0:Int))
 |e::tl,i,ob=>
  (((oR (dw (dw (dw (dw (dw (dw (dw (dw ([]:List (Int×(cX→am→Option (((List (List ac))×Int)×cX)))) (1:Int) (fun(mc:cX) (mx:am)=>(kJ mc mx).map fun mr=>(mr,mc))) (2:Int) (fun(mc:cX) (mx:am)=>(jB mc mx).map fun mr=>(mr,mc))) (3:Int) (fun(mc:cX) (mx:am)=>(jy mc mx).map fun mr=>(mr,mc))) (4:Int) (fun(mc:cX) (mx:am)=>(i7 mc mx).map fun mr=>(mr,mc))) (5:Int) (fun(mc:cX) (mx:am)=>(i6 mc mx).map fun mr=>(mr,mc))) (6:Int) (fun(mc:cX) (mx:am)=>(iD mc mx).map fun mr=>(mr,mc))) (7:Int) (fun(mc:cX) (mx:am)=>(j6 mc mx).map fun mr=>(mr,mc))) (8:Int) (fun(mc:cX) (mx:am)=>(j7 mc mx).map fun mr=>(mr,mc))) e.Op).getD (fun _ _=>none)) ob (e)).bind fun r2=>
  if((r2.1.2==(0:Int))&&(decide ((8000:Int)<(r2.1.1.length:Int))))then
  (nL l (f9 l tl) i e r2 (3:Int))
  else
  (nL l (f9 l tl) i e r2 r2.1.2)

def rb(l:bU)(b:iJ):Option ((List (List ac))×Int):=
  (q6 l).bind fun r=>
  if(r.2 !=(0:Int))then
  (some ([],r.2))
  else
  ((ua l b).bind fun r1=>
  if(!r1)then
  (some ([],(250:Int)))
  else
  (f9 l l.Nodes 0 (⟨b,[],[]⟩:cX)))

def Ew:Option am:=
 some (⟨(1:Int),(-1:Int),(-1:Int),(0:Int),[(2:Int)],false,(⟨[]⟩:bL),[],[],[],[],(0:Int)⟩:am)

def Gx(k:Int):Option bL:=
 some (⟨[(⟨(2:Int),(-1:Int),(-1:Int),k,(⟨(0:Int),(0:Int),(0:Int),[]⟩:ac)⟩:bo)]⟩:bL)

def HV(k:Int):Option (List ac):=
 some ([(⟨(2:Int),k,(0:Int),[]⟩:ac)])

def Cv:Option iJ:=
 (HV (1:Int)).bind fun r=>
 (HV (2:Int)).bind fun r1=>
 some (⟨[[r,r1,[(⟨(0:Int),(0:Int),(0:Int),[]⟩:ac)]]]⟩:iJ)

def tR:Option Bool:=
  (Ew).bind fun r=>
  (Gx (0:Int)).bind fun r1=>
  (Cv).bind fun r2=>
  (rb (⟨[r,(⟨(4:Int),(0:Int),(-1:Int),(0:Int),[],false,(⟨[]⟩:bL),[],[(⟨(1:Int),(⟨[]⟩:bL)⟩:hY),(⟨(3:Int),r1⟩:hY)],[],[],(0:Int)⟩:am)]⟩:bU) r2).bind fun r3=>
  (if((r3.2==(0:Int))&&((r3.1.length:Int)==(1:Int)))then((cE r3.1 (0:Int)).bind fun e=>
  some ((e.length:Int)==(2:Int)))else some false).bind fun t=>
  (if t then((cE r3.1 (0:Int)).bind fun e1=>
  (cE e1 (0:Int)).bind fun e2=>
  some (e2.N==(3:Int)))else some false).bind fun t1=>
  (if t1 then((cE r3.1 (0:Int)).bind fun e3=>
  (cE e3 (1:Int)).bind fun e4=>
  some (e4.N==(3:Int)))else some false).bind fun t2=>
  some t2

def kX(nx:Option Bool):List ac→Option Bool
 |[]=>
  nx
 |e1::tl1=>
  if(decide ((200:Int)<(e1.S.length:Int)))then
  (some true)
  else
  ((kX nx tl1))

def iq:List (List ac)→Option Bool
 |[]=>
  some false
 |e::tl=>
  if(decide ((30:Int)<(e.length:Int)))then
  (some true)
  else
  (kX (iq tl) e)

def pJ(l:(List (List ac)))(most:Int):Option Bool:=
 if(decide (most<(l.length:Int)))then
 (some true)
 else
 (iq l)

def AH:List bo→Option Bool
 |[]=>
  some false
 |e1::tl=>
  if(decide ((200:Int)<(e1.Value.S.length:Int)))then
  (some true)
  else
  ((AH tl))

def LT(a1:(List ac))(b:(List ac)):Option (List ac):=
 (app ([]:List ac) a1).bind fun out=>
 (app out b).bind fun x=>
 some x

def FK(b:iJ)(nx:Int→iJ→Option iJ)(i:Int)(out:iJ):Nat→(List (List ac))→Int→Option iJ
  |0,_,_=>none
  |n1+1,l1,k=>
    (cE b.Tables i).bind fun e=>
    if(decide (k<(e.length:Int)))then
    ((cE e k).bind fun e1=>
    (LT e1 ([])).bind fun r=>
    (app l1 ([r])).bind fun l4=>
    (FK b nx i out n1) l4 (IntKind.i64.wrap (k+(1:Int))))
    else
    ((app out.Tables ([l1])).bind fun l6=>
    nx (IntKind.i64.wrap (i+(1:Int))) ({out with Tables:=l6}:iJ))

def dh(v:ac):Option Bool:=
  if(v.Kind==(0:Int))then
  (some (decide (v=(⟨(0:Int),(0:Int),(0:Int),[]⟩:ac))))
  else
  (if(v.Kind==(1:Int))then
  (some (((v.U==(0:Int))&&(v.S==([])))&&((v.N==(0:Int))||(v.N==(1:Int)))))
  else
  (if(v.Kind==(2:Int))then
  (some ((v.U==(0:Int))&&(v.S==([]))))
  else
  (if(v.Kind==(3:Int))then
  (some (((v.N==(0:Int))&&(v.U==(0:Int)))&&(decide ((v.S.length:Int)≤(40:Int)))))
  else
  (some ((v.Kind==(4:Int))&&(v.S==([])))))))

def nv:List ac→Option Bool
 |[]=>
  some true
 |e::tl=>
  (dh e).bind fun r1=>
  if(!r1)then
  (some false)
  else
  ((nv tl))

def tL(r:(List ac)):Option Bool:=
 if(decide ((16:Int)<(r.length:Int)))then
 (some false)
 else
 (nv r)

def lc(less:Bool):Option Int:=
 if less then
 (some (-1:Int))
 else
 (some (1:Int))

def kU(a1:ac)(b:ac):Option Int:=
  if(a1.Kind !=b.Kind)then
  ((lc (decide (a1.Kind<b.Kind))).bind fun r=>
  some r)
  else
  (if(a1.N !=b.N)then
  ((lc (decide (a1.N<b.N))).bind fun r1=>
  some r1)
  else
  (if(a1.U !=b.U)then
  ((lc (decide (a1.U<b.U))).bind fun r2=>
  some r2)
  else
  (if(!(a1.S==b.S))then
  ((lc (Op.bytesLess a1.S b.S)).bind fun r3=>
  some r3)
  else
  (some (0:Int)))))

def lJ(a1:(List ac))(b:(List ac)):Nat→Int→Option Int
  |0,_=>none
  |n+1,i=>
    if((decide (i<(a1.length:Int)))&&(decide (i<(b.length:Int))))then
    ((cE a1 i).bind fun e=>
    (cE b i).bind fun e1=>
    (kU e e1).bind fun r=>
    if(r !=(0:Int))then
    (some r)
    else
    ((lJ a1 b n) (IntKind.i64.wrap (i+(1:Int)))))
    else
    (if((a1.length:Int)==(b.length:Int))then
    (some (0:Int))
    else
    ((lc (decide ((a1.length:Int)<(b.length:Int)))).bind fun r1=>
    some r1))

def oo(a1:(List ac))(b:(List ac)):Option Int:=
 lJ a1 b ge (0:Int)

def om(b:(List (List ac))):List (List ac)→Nat→Option Bool
 |[],i=>
  some true
 |e::tl,i=>
  (cE b (i:Int)).bind fun e1=>
  (oo e e1).bind fun r=>
  if(r !=(0:Int))then
  (some false)
  else
  ((om b tl) (i+1))

def vF(a1:(List (List ac)))(b:(List (List ac))):Option Bool:=
 if((a1.length:Int) !=(b.length:Int))then
 (some false)
 else
 (om b a1 0)

def lH(x1:Bool):Option Int:=
 if x1 then
 (some (1:Int))
 else
 (some (-1:Int))

def sI(op:Int)(x:Bool):Option Int:=
  if x then
  (some (2:Int))
  else
  (if(op==(3:Int))then
  (lH (op==(3:Int)))
  else
  (if(op==(4:Int))then
  (lH (op==(4:Int)))
  else
  (if(op==(5:Int))then
  (lH (op==(5:Int)))
  else
  (if(op==(6:Int))then
  (lH (op==(6:Int)))
  else
  (lH (op==(8:Int)))))))

def wZ(op:Int):Option Int:=
  if(op==(1:Int))then
  (some (0:Int))
  else
  (if(op==(2:Int))then
  (sI op (op==(2:Int)))
  else
  (sI op (op==(7:Int))))

def bW:Nat→bU→Int→Option Int
  |0,_,_=>none
  |fu+1,l,at1=>
    if((decide (at1<(0:Int)))||(decide ((l.Nodes.length:Int)≤at1)))then
    (some (0:Int))
    else
    ((cE l.Nodes at1).bind fun e=>
    (wZ e.Op).bind fun r=>
    if(r==(0:Int))then
    (if((e.A==(-1:Int))&&(e.B==(-1:Int)))then
    (some (1:Int))
    else
    (some (0:Int)))
    else
    (if(r==(1:Int))then
    (if((e.A==(IntKind.i64.wrap (at1-(1:Int))))&&(e.B==(-1:Int)))then
    (((bW fu) l e.A).bind fun r1=>
    if(decide ((0:Int)<r1))then
    (some (IntKind.i64.wrap (r1+(1:Int))))
    else
    (some (0:Int)))
    else
    (some (0:Int)))
    else
    (if(r==(2:Int))then
    (if(e.B==(IntKind.i64.wrap (at1-(1:Int))))then
    (((bW fu) l e.B).bind fun r2=>
    if((decide ((0:Int)<r2))&&(e.A==(IntKind.i64.wrap (e.B-r2))))then
    (((bW fu) l e.A).bind fun r3=>
    if(decide ((0:Int)<r3))then
    (some (IntKind.i64.wrap ((IntKind.i64.wrap (r3+r2))+(1:Int))))
    else
    (some (0:Int)))
    else
    (some (0:Int)))
    else
    (some (0:Int)))
    else
    (some (0:Int)))))

def kj(l:bU)(at1:Int):Option Int:=
 bW ge l at1

def uQ(n:am):Option Bool:=
  if((n.Op !=(1:Int))&&((n.Table !=(0:Int))||(decide ((0:Int)<(n.Kinds.length:Int)))))then
  (some false)
  else
  (if(((n.Op !=(2:Int))&&n.Left)||(((n.Op !=(2:Int))&&(n.Op !=(3:Int)))&&(decide ((0:Int)<(n.Cond.Nodes.length:Int)))))then
  (some false)
  else
  (if(((n.Op !=(4:Int))&&((decide ((0:Int)<(n.Keys.length:Int)))||(decide ((0:Int)<(n.Aggs.length:Int)))))||((n.Op !=(5:Int))&&(decide ((0:Int)<(n.Items.length:Int)))))then
  (some false)
  else
  (some ((n.Op==(8:Int))||(((n.Order.length:Int)==(0:Int))&&(n.Limit==(0:Int)))))))

def Cr(tag:Int):Option Int:=
  if((decide (tag<(1:Int)))||(decide ((23:Int)<tag)))then
  (some (-1:Int))
  else
  (if(decide (tag≤(3:Int)))then
  (some (0:Int))
  else
  (if(decide (tag≤(11:Int)))then
  (some (1:Int))
  else
  (some (2:Int))))

def w8(tag:Int):Option Int:=
  if((tag==(3:Int))||((decide ((8:Int)≤tag))&&(decide (tag≤(11:Int)))))then
  (some (-1:Int))
  else
  ((Cr tag).bind fun r=>
  some r)

def lZ(v:ac):Option Bool:=
 (dh v).bind fun r=>
 some (r&&(v.Kind !=(4:Int)))

def mo(n:bo):Option Bool:=
  if(n.Tag==(1:Int))then
  ((lZ n.Value).bind fun r=>
  some (r&&(n.Col==(0:Int))))
  else
  (if(n.Tag==(2:Int))then
  (some (((decide (n.Value=(⟨(0:Int),(0:Int),(0:Int),[]⟩:ac)))&&(decide ((0:Int)≤n.Col)))&&(decide (n.Col<(16:Int)))))
  else
  (some ((decide (n.Value=(⟨(0:Int),(0:Int),(0:Int),[]⟩:ac)))&&(n.Col==(0:Int)))))

def jg:Nat→bL→Int→Option Int
  |0,_,_=>none
  |fu+1,e,place=>
    if((decide (place<(0:Int)))||(decide ((e.Nodes.length:Int)≤place)))then
    (some (0:Int))
    else
    ((cE e.Nodes place).bind fun e1=>
    (w8 e1.Tag).bind fun r=>
    (if(!(decide (r<(0:Int))))then((mo e1).bind fun r1=>
    some (!r1))else some true).bind fun t=>
    if t then
    (some (0:Int))
    else
    (if(r==(0:Int))then
    (if((e1.L !=(-1:Int))||(e1.R !=(-1:Int)))then
    (some (0:Int))
    else
    (some (1:Int)))
    else
    (((jg fu) e (IntKind.i64.wrap (place-(1:Int)))).bind fun r2=>
    if(r2==(0:Int))then
    (some (0:Int))
    else
    (if(r==(1:Int))then
    (if((e1.L !=(IntKind.i64.wrap (place-(1:Int))))||(e1.R !=(-1:Int)))then
    (some (0:Int))
    else
    (some (IntKind.i64.wrap (r2+(1:Int)))))
    else
    (((jg fu) e (IntKind.i64.wrap ((IntKind.i64.wrap (place-(1:Int)))-r2))).bind fun r3=>
    if(((r3==(0:Int))||(e1.R !=(IntKind.i64.wrap (place-(1:Int)))))||(e1.L !=(IntKind.i64.wrap ((IntKind.i64.wrap (place-(1:Int)))-r2))))then
    (some (0:Int))
    else
    (some (IntKind.i64.wrap ((IntKind.i64.wrap (r3+r2))+(1:Int)))))))))

def D9(e:bL)(place:Int):Option Int:=
 jg ge e place

def tK(e:bL):Option Bool:=
  (if((decide ((1:Int)≤(e.Nodes.length:Int)))&&(decide ((e.Nodes.length:Int)≤(1000:Int))))then((D9 e (IntKind.i64.wrap ((e.Nodes.length:Int)-(1:Int)))).bind fun r=>
  some (r==(e.Nodes.length:Int)))else some false).bind fun t=>
  some t

def im(k:Int)(want:Int):Option Bool:=
 some ((k==want)||(k==(0:Int)))

def iU(tag:Int)(l:Int)(r:Int):Option (Int×Bool):=
  if((tag==(4:Int))||((decide ((12:Int)≤tag))&&(decide (tag≤(15:Int)))))then
  ((im l (2:Int)).bind fun r1=>
  (if r1 then((im r (2:Int)).bind fun r2=>
  some r2)else some false).bind fun t=>
  some ((2:Int),t))
  else
  (if((tag==(5:Int))||(decide ((22:Int)≤tag)))then
  ((im l (1:Int)).bind fun r3=>
  (if r3 then((im r (1:Int)).bind fun r4=>
  some r4)else some false).bind fun t1=>
  some ((1:Int),t1))
  else
  (if((tag==(6:Int))||(tag==(7:Int)))then
  (some ((1:Int),true))
  else
  (some ((1:Int),(((l==r)||(l==(0:Int)))||(r==(0:Int)))))))

def qF(nx2:(List Int)→Option (Int×Int))(e3:bo)(own:List Int)(e6:Int)(r1:Int):Option (Int×Int):=
  (iU e3.Tag e6 r1).bind fun r2=>
  if(!r2.2)then
  (some ((0:Int),(201:Int)))
  else
  ((app own ([r2.1])).bind fun own3=>
  nx2 own3)

def dl(kinds:(List Int)):List bo→(List Int)→Option (Int×Int)
  |[],own=>
    (cE own (IntKind.i64.wrap ((own.length:Int)-(1:Int)))).bind fun e4=>
    some (e4,(0:Int))
  |e3::tl2,own=>
    if(e3.Tag==(1:Int))then
    ((app own ([e3.Value.Kind])).bind fun own1=>
    (dl kinds tl2) own1)
    else
    (if(e3.Tag==(2:Int))then
    ((cE kinds e3.Col).bind fun e5=>
    (app own ([e5])).bind fun own2=>
    (dl kinds tl2) own2)
    else
    ((cE own e3.L).bind fun e6=>
    if(decide ((0:Int)≤e3.R))then
    ((cE own e3.R).bind fun e7=>
    qF (dl kinds tl2) e3 own e6 e7)
    else
    (qF (dl kinds tl2) e3 own e6 (0:Int))))

def ol(e:bL)(kinds:(List Int)):List bo→Option (Int×Int)
 |[]=>
  dl kinds e.Nodes ([]:List Int)
 |e2::tl1=>
  if((e2.Tag==(2:Int))&&(decide ((kinds.length:Int)≤e2.Col)))then
  (some ((0:Int),(2:Int)))
  else
  ((ol e kinds tl1))

def qE(e:bL)(kinds:(List Int)):List Int→Option (Int×Int)
 |[]=>
  ol e kinds e.Nodes
 |e1::tl=>
  if((decide (e1<(0:Int)))||(decide ((3:Int)<e1)))then
  (some ((0:Int),(2:Int)))
  else
  ((qE e kinds tl))

def sJ(e:bL)(kinds:(List Int)):Option (Int×Int):=
 (tK e).bind fun r=>
 if(!r)then
 (some ((0:Int),(200:Int)))
 else
 (qE e kinds kinds)

def tJ(e:bL)(kinds:(List Int)):Option Bool:=
 (sJ e kinds).bind fun r=>
 some ((r.2==(0:Int))&&((r.1==(0:Int))||(r.1==(1:Int))))

def kI(a1:hY)(kinds:(List Int)):Option (Int×Bool):=
  if(a1.Tag==(1:Int))then
  (some ((2:Int),((a1.Arg.Nodes.length:Int)==(0:Int))))
  else
  ((sJ a1.Arg kinds).bind fun r=>
  if(((decide (a1.Tag<(1:Int)))||(decide ((5:Int)<a1.Tag)))||(r.2 !=(0:Int)))then
  (some ((0:Int),false))
  else
  (if(((a1.Tag==(3:Int))&&(r.1 !=(2:Int)))&&(r.1 !=(0:Int)))then
  (some ((0:Int),false))
  else
  (if(decide ((4:Int)≤a1.Tag))then
  (some (r.1,true))
  else
  (some ((2:Int),true)))))

def dB(n:am):Nat→Bool→Int→Option ((List Int)×Bool)
  |0,_,_=>none
  |n1+1,ok,i=>
    if(decide (i<(n.Kinds.length:Int)))then
    ((if ok then((cE n.Kinds i).bind fun e=>
    some (decide ((1:Int)≤e)))else some false).bind fun t=>
    (if t then((cE n.Kinds i).bind fun e1=>
    some (decide (e1≤(3:Int))))else some false).bind fun t1=>
    (dB n n1) t1 (IntKind.i64.wrap (i+(1:Int))))
    else
    (some (n.Kinds,((((ok&&(decide ((0:Int)≤n.Table)))&&(decide (n.Table≤(3:Int))))&&(decide ((1:Int)≤(n.Kinds.length:Int))))&&(decide ((n.Kinds.length:Int)≤(4:Int))))))

def dU(n:am)(a1:(List Int)):Nat→(List Int)→Bool→Int→Option ((List Int)×Bool)
  |0,_,_,_=>none
  |n3+1,out3,ok1,i2=>
    if(decide (i2<(n.Aggs.length:Int)))then
    ((cE n.Aggs i2).bind fun e4=>
    (kI e4 a1).bind fun r2=>
    (app out3 ([r2.1])).bind fun out4=>
    (dU n a1 n3) out4 (ok1&&r2.2) (IntKind.i64.wrap (i2+(1:Int))))
    else
    (some (out3,(((ok1&&(decide ((n.Keys.length:Int)≤(3:Int))))&&(decide ((n.Aggs.length:Int)≤(12:Int))))&&(decide ((0:Int)<(out3.length:Int))))))

def dV(n:am)(a1:(List Int)):Nat→(List Int)→Int→Option ((List Int)×Bool)
  |0,_,_=>none
  |n2+1,out1,i1=>
    if(decide (i1<(n.Keys.length:Int)))then
    ((cE n.Keys i1).bind fun e2=>
    if((decide (e2<(0:Int)))||(decide ((a1.length:Int)≤e2)))then
    (some ([],false))
    else
    ((cE a1 e2).bind fun e3=>
    (app out1 ([e3])).bind fun out2=>
    (dV n a1 n2) out2 (IntKind.i64.wrap (i1+(1:Int)))))
    else
    (dU n a1 ge out1 true (0:Int))

def dT(n:am)(a1:(List Int)):Nat→(List Int)→Bool→Int→Option ((List Int)×Bool)
  |0,_,_,_=>none
  |n4+1,out5,ok2,i3=>
    if(decide (i3<(n.Items.length:Int)))then
    ((cE n.Items i3).bind fun e5=>
    (sJ e5 a1).bind fun r3=>
    (app out5 ([r3.1])).bind fun out6=>
    (dT n a1 n4) out6 (ok2&&(r3.2==(0:Int))) (IntKind.i64.wrap (i3+(1:Int))))
    else
    (some (out5,((ok2&&(decide ((1:Int)≤(out5.length:Int))))&&(decide ((out5.length:Int)≤(16:Int))))))

def il(b:(List Int))(nx4:Nat→(List Int)→Bool→Option ((List Int)×Bool))(i4:Nat)(out7:List Int)(ok3:Bool)(k:Int):Option ((List Int)×Bool):=
  (app out7 ([k])).bind fun out8=>
  (if ok3 then((cE b (i4:Int)).bind fun e7=>
  (if(!(e7==k))then((cE b (i4:Int)).bind fun e8=>
  some (e8==(0:Int)))else some true).bind fun t3=>
  some t3)else some false).bind fun t2=>
  nx4 (i4+1) out8 t2

def dA(b:(List Int)):List Int→Nat→(List Int)→Bool→Option ((List Int)×Bool)
  |[],i4,out7,ok3=>
    some (out7,ok3)
  |e6::tl,i4,out7,ok3=>
    if(e6==(0:Int))then
    ((cE b (i4:Int)).bind fun e9=>
    il b (dA b tl) i4 out7 ok3 e9)
    else
    (il b (dA b tl) i4 out7 ok3 e6)

def dg(n:am)(a1:(List Int)):Nat→Bool→Int→Option ((List Int)×Bool)
  |0,_,_=>none
  |n5+1,ok4,i5=>
    if(decide (i5<(n.Order.length:Int)))then
    ((if ok4 then((cE n.Order i5).bind fun e10=>
    some (decide ((0:Int)≤e10.Col)))else some false).bind fun t4=>
    (if t4 then((cE n.Order i5).bind fun e11=>
    some (decide (e11.Col<(a1.length:Int))))else some false).bind fun t5=>
    (dg n a1 n5) t5 (IntKind.i64.wrap (i5+(1:Int))))
    else
    (some (a1,(((ok4&&(decide ((n.Order.length:Int)≤(3:Int))))&&(decide ((-1:Int)≤n.Limit)))&&(decide (n.Limit≤(2147483647:Int))))))

def bq(n:am)(a1:(List Int))(b:(List Int)):Option ((List Int)×Bool):=
  if(n.Op==(1:Int))then
  (dB n ge true (0:Int))
  else
  (if(n.Op==(2:Int))then
  ((app ([]:List Int) a1).bind fun l=>
  (app l b).bind fun out=>
  (tJ n.Cond out).bind fun r=>
  some (out,r))
  else
  (if(n.Op==(3:Int))then
  ((tJ n.Cond a1).bind fun r1=>
  some (a1,r1))
  else
  (if(n.Op==(4:Int))then
  (dV n a1 ge ([]:List Int) (0:Int))
  else
  (if(n.Op==(5:Int))then
  (dT n a1 ge ([]:List Int) true (0:Int))
  else
  (if(n.Op==(6:Int))then
  (some (a1,true))
  else
  (if(n.Op==(7:Int))then
  (if((a1.length:Int) !=(b.length:Int))then
  (some ([],false))
  else
  (dA b a1 0 ([]:List Int) true))
  else
  (dg n a1 ge true (0:Int))))))))

def gF(l:bU)(at1:Int)(e1:am)(a1:(List Int))(b1:(List Int)):Option ((List Int)×Bool):=
 (bq e1 a1 b1).bind fun r2=>
 if(((e1.Op==(8:Int))&&(at1 !=(IntKind.i64.wrap ((l.Nodes.length:Int)-(1:Int)))))||(decide ((16:Int)<(r2.1.length:Int))))then
 (some ([],false))
 else
 (some (r2.1,r2.2))

def eG(self__:bU→Int→Option ((List Int)×Bool))(l:bU)(at1:Int)(e1:am)(a1:(List Int)):Option ((List Int)×Bool):=
  if(decide ((0:Int)≤e1.B))then
  ((self__ l e1.B).bind fun r3=>
  if(!r3.2)then
  (some ([],false))
  else
  (gF l at1 e1 a1 r3.1))
  else
  (gF l at1 e1 a1 ([]))

def cj:Nat→bU→Int→Option ((List Int)×Bool)
  |0,_,_=>none
  |fu+1,l,at1=>
    (kj l at1).bind fun r=>
    (if(!(r==(0:Int)))then((cE l.Nodes at1).bind fun e=>
    (uQ e).bind fun r1=>
    some (!r1))else some true).bind fun t=>
    if t then
    (some ([],false))
    else
    ((cE l.Nodes at1).bind fun e1=>
    if(decide ((0:Int)≤e1.A))then
    (((cj fu) l e1.A).bind fun r4=>
    if(!r4.2)then
    (some ([],false))
    else
    (eG (cj fu) l at1 e1 r4.1))
    else
    (eG (cj fu) l at1 e1 ([])))

def qT(l:bU)(at1:Int):Option ((List Int)×Bool):=
 cj ge l at1

def fi(l:bU):List am→Nat→Option Int
 |[],i=>
  (kj l (IntKind.i64.wrap ((l.Nodes.length:Int)-(1:Int)))).bind fun r=>
  if(r !=(l.Nodes.length:Int))then
  (some (IntKind.i64.wrap ((l.Nodes.length:Int)-(1:Int))))
  else
  (some (-1:Int))
 |e::tl,i=>
  (qT l (i:Int)).bind fun r1=>
  if(!r1.2)then
  (some (i:Int))
  else
  ((fi l tl) (i+1))

def qS(l:bU):Option Int:=
 if((decide ((l.Nodes.length:Int)<(1:Int)))||(decide ((60:Int)<(l.Nodes.length:Int))))then
 (some (0:Int))
 else
 (fi l l.Nodes 0)

def Cq(l:bU):Option Bool:=
 (qS l).bind fun r=>
 some (decide (r<(0:Int)))

def nt(nx:Option Bool)(n:Int):Option Bool:=
 if(n !=(0:Int))then
 (some (decide (n<(0:Int))))
 else
 (nx)

def jj(a1:(List ac))(b:(List ac)):List dn→Option Bool
 |[]=>
  (oo a1 b).bind fun r=>
  some (decide (r<(0:Int)))
 |e::tl=>
  (cE a1 e.Col).bind fun e1=>
  (cE b e.Col).bind fun e2=>
  (kU e1 e2).bind fun r1=>
  if e.Desc then
  (nt (jj a1 b tl) (IntKind.i64.wrap ((0:Int)-r1)))
  else
  (nt (jj a1 b tl) r1)

def nu(a1:(List ac))(b:(List ac))(order:(List dn)):Option Bool:=
 jj a1 b order

def mY(nx:(List (List ac))→Option (List (List ac)))(e:(List ac))(at1:Int):Nat→(List (List ac))→Int→Option (List (List ac))
  |0,_,_=>none
  |n1+1,out2,k=>
    if(decide (at1<k))then
    ((cE out2 (IntKind.i64.wrap (k-(1:Int)))).bind fun e2=>
    (cE out2 k).bind fun e3=>
    (some (out2.set k.toNat e2)).bind fun st=>
    (mY nx e at1 n1) st (IntKind.i64.wrap (k-(1:Int))))
    else
    ((cE out2 at1).bind fun e4=>
    (some (out2.set at1.toNat e)).bind fun st1=>
    nx st1)

def oj(order:(List dn))(nx:(List (List ac))→Option (List (List ac)))(e:(List ac))(out:List (List ac)):Nat→Int→Option (List (List ac))
  |0,_=>none
  |n+1,at1=>
    (if(decide (at1<(out.length:Int)))then((cE out at1).bind fun e1=>
    (nu e e1 order).bind fun r=>
    some (!r))else some false).bind fun t=>
    if t then
    ((oj order nx e out n) (IntKind.i64.wrap (at1+(1:Int))))
    else
    ((app out ([[]])).bind fun out1=>
    mY nx e at1 ge out1 (IntKind.i64.wrap ((out1.length:Int)-(1:Int))))

def jX(order:(List dn))(limit:Int):List (List ac)→(List (List ac))→Option (List (List ac))
  |[],out=>
    if((decide ((0:Int)≤limit))&&(decide (limit<(out.length:Int))))then
    ((dx out 0 limit).bind fun y=>
    some y)
    else
    (some out)
  |e::tl,out=>
    oj order (jX order limit tl) e out ge (0:Int)

def sH(l:(List (List ac)))(order:(List dn))(limit:Int):Option (List (List ac)):=
 jX order limit l ([]:List (List ac))

def j4(n:Int):Option ac:=
 some (⟨(2:Int),n,(0:Int),[]⟩:ac)

def oQ(v:ac):Option Bool:=
 (dh v).bind fun r=>
 some (r&&((v.Kind==(0:Int))||(v.Kind==(2:Int))))

def ny(high:Int)(low:Int)(b2:eP):Option eP:=
 some ({({({({b2 with D:=(b2.D.set (0:Int).toNat ((low).tmod (4294967296:Int)))}:eP)with D:=((({b2 with D:=(b2.D.set (0:Int).toNat ((low).tmod (4294967296:Int)))}:eP).D).set (1:Int).toNat ((low).fdiv (2^(min (Int.toNat (32:Int)) IntKind.u64.bits))))}:eP)with D:=((({({b2 with D:=(b2.D.set (0:Int).toNat ((low).tmod (4294967296:Int)))}:eP)with D:=((({b2 with D:=(b2.D.set (0:Int).toNat ((low).tmod (4294967296:Int)))}:eP).D).set (1:Int).toNat ((low).fdiv (2^(min (Int.toNat (32:Int)) IntKind.u64.bits))))}:eP).D).set (2:Int).toNat ((high).tmod (4294967296:Int)))}:eP)with D:=((({({({b2 with D:=(b2.D.set (0:Int).toNat ((low).tmod (4294967296:Int)))}:eP)with D:=((({b2 with D:=(b2.D.set (0:Int).toNat ((low).tmod (4294967296:Int)))}:eP).D).set (1:Int).toNat ((low).fdiv (2^(min (Int.toNat (32:Int)) IntKind.u64.bits))))}:eP)with D:=((({({b2 with D:=(b2.D.set (0:Int).toNat ((low).tmod (4294967296:Int)))}:eP)with D:=((({b2 with D:=(b2.D.set (0:Int).toNat ((low).tmod (4294967296:Int)))}:eP).D).set (1:Int).toNat ((low).fdiv (2^(min (Int.toNat (32:Int)) IntKind.u64.bits))))}:eP).D).set (2:Int).toNat ((high).tmod (4294967296:Int)))}:eP).D).set (3:Int).toNat ((high).fdiv (2^(min (Int.toNat (32:Int)) IntKind.u64.bits))))}:eP)

def qV(n:Int)(u:Int):Option eP:=
  if(decide (n<(0:Int)))then
  (if((IntKind.u64.wrap ((fm .xor .u64 (if IntKind.u64.signed then -1 else IntKind.u64.max) u)+(1:Int)))==(0:Int))then
  (ny (IntKind.u64.wrap ((fm .xor .u64 (if IntKind.u64.signed then -1 else IntKind.u64.max) (IntKind.u64.wrap n))+(1:Int))) (IntKind.u64.wrap ((fm .xor .u64 (if IntKind.u64.signed then -1 else IntKind.u64.max) u)+(1:Int))) (eP.mk (⟨(List.replicate 8 (0:Int)),false⟩:eP).D true))
  else
  (ny (fm .xor .u64 (if IntKind.u64.signed then -1 else IntKind.u64.max) (IntKind.u64.wrap n)) (IntKind.u64.wrap ((fm .xor .u64 (if IntKind.u64.signed then -1 else IntKind.u64.max) u)+(1:Int))) (eP.mk (⟨(List.replicate 8 (0:Int)),false⟩:eP).D true)))
  else
  (ny (IntKind.u64.wrap n) u (⟨(List.replicate 8 (0:Int)),false⟩:eP))

def fS(n:Int):Option eP:=
  if(decide (n<(0:Int)))then
  ((qV (-1:Int) (IntKind.u64.wrap n)).bind fun r=>
  some r)
  else
  ((qV (0:Int) (IntKind.u64.wrap n)).bind fun r1=>
  some r1)

def ld(a1:eP)(b:eP):Nat→Int→Option Bool
  |0,_=>none
  |n+1,i=>
    if(decide ((0:Int)≤i))then
    ((cE a1.D i).bind fun e=>
    (cE b.D i).bind fun e1=>
    if(e !=e1)then
    (some (decide (e<e1)))
    else
    ((ld a1 b n) (IntKind.i64.wrap (i-(1:Int)))))
    else
    (some false)

def sM(a1:eP)(b:eP):Option Bool:=
 ld a1 b ge (7:Int)

def sL(a1:eP):Option Bool:=
 some (decide (a1.D=(List.replicate 8 (0:Int))))

def gG(a2:eP)(b4:eP):Nat→Nat→Int→eP→Option eP
  |0,i,carry,out=>
    (if out.Below then((sL out).bind fun r=>
    some (!r))else some false).bind fun t=>
    some (eP.mk out.D t)
  |k1+1,i,carry,out=>
    if(a2.Below==b4.Below)then
    ((Rd (i:Int) 8).bind fun u=>
    (cE a2.D (i:Int)).bind fun e1=>
    (Rd (i:Int) 8).bind fun u1=>
    (cE b4.D (i:Int)).bind fun e2=>
    (Rd (i:Int) 8).bind fun u2=>
    (gG a2 b4 k1) (i+1) (((IntKind.u64.wrap ((IntKind.u64.wrap (e1+e2))+carry))).fdiv (2^(min (Int.toNat (32:Int)) IntKind.u64.bits))) ({out with D:=(out.D.set (i:Int).toNat (((IntKind.u64.wrap ((IntKind.u64.wrap (e1+e2))+carry))).tmod (4294967296:Int)))}:eP))
    else
    ((Rd (i:Int) 8).bind fun u3=>
    (cE a2.D (i:Int)).bind fun e3=>
    (Rd (i:Int) 8).bind fun u4=>
    (cE b4.D (i:Int)).bind fun e4=>
    (Rd (i:Int) 8).bind fun u5=>
    (gG a2 b4 k1) (i+1) (IntKind.u64.wrap ((1:Int)-(((IntKind.u64.wrap ((IntKind.u64.wrap ((IntKind.u64.wrap (e3+(4294967296:Int)))-e4))-carry))).fdiv (2^(min (Int.toNat (32:Int)) IntKind.u64.bits))))) ({out with D:=(out.D.set (i:Int).toNat (((IntKind.u64.wrap ((IntKind.u64.wrap ((IntKind.u64.wrap (e3+(4294967296:Int)))-e4))-carry))).tmod (4294967296:Int)))}:eP))

def ic(a2:eP)(b4:eP):Option eP:=
 gG a2 b4 8 0 (0:Int) (⟨(List.replicate 8 (0:Int)),a2.Below⟩:eP)

def mp(a1:eP)(b:eP):Option eP:=
  (if(a1.Below !=b.Below)then((sM a1 b).bind fun r1=>
  some r1)else some false).bind fun t1=>
  if t1 then
  (ic b a1)
  else
  (ic a1 b)

def lg(a1:eP)(high:Int)(low:Int):Option (Int×Int×Bool):=
 some ((IntKind.i64.wrap high),low,((decide ((IntKind.i64.wrap high)<(0:Int)))==a1.Below))

def ft(a1:eP)(e:Int)(e1:Int)(e2:Int)(e3:Int):Nat→Nat→Option (Int×Int×Bool)
  |0,i=>
    if a1.Below then
    (if((IntKind.u64.wrap ((fm .xor .u64 (if IntKind.u64.signed then -1 else IntKind.u64.max) (IntKind.u64.wrap ((IntKind.u64.wrap (e2*2^(min (Int.toNat (32:Int)) IntKind.u64.bits)))+e3)))+(1:Int)))==(0:Int))then
    (lg a1 (IntKind.u64.wrap ((fm .xor .u64 (if IntKind.u64.signed then -1 else IntKind.u64.max) (IntKind.u64.wrap ((IntKind.u64.wrap (e*2^(min (Int.toNat (32:Int)) IntKind.u64.bits)))+e1)))+(1:Int))) (IntKind.u64.wrap ((fm .xor .u64 (if IntKind.u64.signed then -1 else IntKind.u64.max) (IntKind.u64.wrap ((IntKind.u64.wrap (e2*2^(min (Int.toNat (32:Int)) IntKind.u64.bits)))+e3)))+(1:Int))))
    else
    (lg a1 (fm .xor .u64 (if IntKind.u64.signed then -1 else IntKind.u64.max) (IntKind.u64.wrap ((IntKind.u64.wrap (e*2^(min (Int.toNat (32:Int)) IntKind.u64.bits)))+e1))) (IntKind.u64.wrap ((fm .xor .u64 (if IntKind.u64.signed then -1 else IntKind.u64.max) (IntKind.u64.wrap ((IntKind.u64.wrap (e2*2^(min (Int.toNat (32:Int)) IntKind.u64.bits)))+e3)))+(1:Int)))))
    else
    (lg a1 (IntKind.u64.wrap ((IntKind.u64.wrap (e*2^(min (Int.toNat (32:Int)) IntKind.u64.bits)))+e1)) (IntKind.u64.wrap ((IntKind.u64.wrap (e2*2^(min (Int.toNat (32:Int)) IntKind.u64.bits)))+e3)))
  |k1+1,i=>
    (cE a1.D (i:Int)).bind fun e5=>
    if(e5 !=(0:Int))then
    (some ((0:Int),(0:Int),false))
    else
    ((ft a1 e e1 e2 e3 k1) (i+1))

def vG(a1:eP):Option (Int×Int×Bool):=
 (cE a1.D (3:Int)).bind fun e=>
 (cE a1.D (2:Int)).bind fun e1=>
 (cE a1.D (1:Int)).bind fun e2=>
 (cE a1.D (0:Int)).bind fun e3=>
 ft a1 e e1 e2 e3 (8-4) 4

def iH(a1:eP):Option (Int×Bool):=
 (vG a1).bind fun r=>
 some ((IntKind.i64.wrap r.2.1),(r.2.2&&(((r.1==(0:Int))&&(decide ((0:Int)≤(IntKind.i64.wrap r.2.1))))||((r.1==(-1:Int))&&(decide ((IntKind.i64.wrap r.2.1)<(0:Int)))))))

def rO(a1:eP):Option eP:=
  (if(!a1.Below)then((sL a1).bind fun r=>
  some (!r))else some false).bind fun t=>
  some (eP.mk a1.D t)

def jk(a1:eP)(b:eP)(nx:Nat→eP→Option eP)(i:Nat):Nat→Nat→Int→eP→Option eP
 |0,i1,carry,out1=>
  (Rd (IntKind.i64.wrap ((i:Int)+(4:Int))) 8).bind fun u=>
  nx (i+1) ({out1 with D:=(out1.D.set (IntKind.i64.wrap ((i:Int)+(4:Int))).toNat carry)}:eP)
 |k3+1,i1,carry,out1=>
  (Rd (IntKind.i64.wrap ((i:Int)+(i1:Int))) 8).bind fun u1=>
  (cE out1.D (IntKind.i64.wrap ((i:Int)+(i1:Int)))).bind fun e2=>
  (cE a1.D (i:Int)).bind fun e3=>
  (cE b.D (i1:Int)).bind fun e4=>
  (Rd (IntKind.i64.wrap ((i:Int)+(i1:Int))) 8).bind fun u2=>
  (jk a1 b nx i k3) (i1+1) (((IntKind.u64.wrap ((IntKind.u64.wrap (e2+(IntKind.u64.wrap (e3*e4))))+carry))).fdiv (2^(min (Int.toNat (32:Int)) IntKind.u64.bits))) ({out1 with D:=(out1.D.set (IntKind.i64.wrap ((i:Int)+(i1:Int))).toNat (((IntKind.u64.wrap ((IntKind.u64.wrap (e2+(IntKind.u64.wrap (e3*e4))))+carry))).tmod (4294967296:Int)))}:eP)

def fj(a1:eP)(b:eP):Nat→Nat→eP→Option eP
  |0,i,out=>
    (if(a1.Below !=b.Below)then((sL out).bind fun r=>
    some (!r))else some false).bind fun t=>
    some (eP.mk out.D t)
  |k1+1,i,out=>
    jk a1 b (fj a1 b k1) i 4 0 (0:Int) out

def tM(a1:eP)(b:eP):Option eP:=
 fj a1 b 4 0 (⟨(List.replicate 8 (0:Int)),false⟩:eP)

def nw(a1:eP)(b:eP):Option eP:=
 (cE a1.D (1:Int)).bind fun e=>
 (cE a1.D (0:Int)).bind fun e1=>
 (cE b.D (1:Int)).bind fun e2=>
 (cE b.D (0:Int)).bind fun e3=>
 (nz (IntKind.u64.wrap ((IntKind.u64.wrap (e2*2^(min (Int.toNat (32:Int)) IntKind.u64.bits)))+e3))).bind fun _=>
 some (⟨(((List.replicate 8 (0:Int)).set 0 (((IntKind.u64.wrap (((IntKind.u64.wrap ((IntKind.u64.wrap (e*2^(min (Int.toNat (32:Int)) IntKind.u64.bits)))+e1))).tdiv (IntKind.u64.wrap ((IntKind.u64.wrap (e2*2^(min (Int.toNat (32:Int)) IntKind.u64.bits)))+e3))))).tmod (4294967296:Int))).set 1 (((IntKind.u64.wrap (((IntKind.u64.wrap ((IntKind.u64.wrap (e*2^(min (Int.toNat (32:Int)) IntKind.u64.bits)))+e1))).tdiv (IntKind.u64.wrap ((IntKind.u64.wrap (e2*2^(min (Int.toNat (32:Int)) IntKind.u64.bits)))+e3))))).fdiv (2^(min (Int.toNat (32:Int)) IntKind.u64.bits)))),((a1.Below !=b.Below)&&((IntKind.u64.wrap (((IntKind.u64.wrap ((IntKind.u64.wrap (e*2^(min (Int.toNat (32:Int)) IntKind.u64.bits)))+e1))).tdiv (IntKind.u64.wrap ((IntKind.u64.wrap (e2*2^(min (Int.toNat (32:Int)) IntKind.u64.bits)))+e3)))) !=(0:Int)))⟩:eP)

def iM(op:Int)(a1:ac)(b:ac):Option (ac×Int):=
  (dh a1).bind fun r=>
  (if(!(!r))then((dh b).bind fun r1=>
  some (!r1))else some true).bind fun t=>
  if t then
  (some ((⟨(0:Int),(0:Int),(0:Int),[]⟩:ac),(120:Int)))
  else
  ((oQ a1).bind fun r2=>
  (if(!(!r2))then((oQ b).bind fun r3=>
  some (!r3))else some true).bind fun t1=>
  if t1 then
  (some ((⟨(0:Int),(0:Int),(0:Int),[]⟩:ac),(2:Int)))
  else
  (if((a1.Kind==(0:Int))||(b.Kind==(0:Int)))then
  (some ((⟨(0:Int),(0:Int),(0:Int),[]⟩:ac),(0:Int)))
  else
  (if(op==(43:Int))then
  ((fS a1.N).bind fun r4=>
  (fS b.N).bind fun r5=>
  (mp r4 r5).bind fun r6=>
  (iH r6).bind fun r7=>
  if(!r7.2)then
  (some ((⟨(0:Int),(0:Int),(0:Int),[]⟩:ac),(140:Int)))
  else
  ((j4 r7.1).bind fun r8=>
  some (r8,(0:Int))))
  else
  (if(op==(45:Int))then
  ((fS a1.N).bind fun r9=>
  (fS b.N).bind fun r10=>
  (rO r10).bind fun r11=>
  (mp r9 r11).bind fun r12=>
  (iH r12).bind fun r13=>
  if(!r13.2)then
  (some ((⟨(0:Int),(0:Int),(0:Int),[]⟩:ac),(140:Int)))
  else
  ((j4 r13.1).bind fun r14=>
  some (r14,(0:Int))))
  else
  (if(op==(42:Int))then
  ((fS a1.N).bind fun r15=>
  (fS b.N).bind fun r16=>
  (tM r15 r16).bind fun r17=>
  (iH r17).bind fun r18=>
  if(!r18.2)then
  (some ((⟨(0:Int),(0:Int),(0:Int),[]⟩:ac),(140:Int)))
  else
  ((j4 r18.1).bind fun r19=>
  some (r19,(0:Int))))
  else
  (if(b.N==(0:Int))then
  (some ((⟨(0:Int),(0:Int),(0:Int),[]⟩:ac),(140:Int)))
  else
  ((fS a1.N).bind fun r20=>
  (fS b.N).bind fun r21=>
  (nw r20 r21).bind fun r22=>
  (iH r22).bind fun r23=>
  if(!r23.2)then
  (some ((⟨(0:Int),(0:Int),(0:Int),[]⟩:ac),(140:Int)))
  else
  ((j4 r23.1).bind fun r24=>
  some (r24,(0:Int))))))))))

def km(b:Bool):Option ac:=
 if b then
 (some (⟨(1:Int),(1:Int),(0:Int),[]⟩:ac))
 else
 (some (⟨(1:Int),(0:Int),(0:Int),[]⟩:ac))

def pE(a1:ac)(b:ac):Option Int:=
  (dh a1).bind fun r=>
  (if(!(!r))then((dh b).bind fun r1=>
  some (!r1))else some true).bind fun t=>
  if t then
  (some (120:Int))
  else
  (if((decide ((1:Int)<a1.Kind))||(decide ((1:Int)<b.Kind)))then
  (some (2:Int))
  else
  (some (0:Int)))

def iW(a1:ac):Option (ac×Int):=
  (pE a1 a1).bind fun r=>
  if((r !=(0:Int))||(a1.Kind==(0:Int)))then
  (some ((⟨(0:Int),(0:Int),(0:Int),[]⟩:ac),r))
  else
  ((km (a1.N==(0:Int))).bind fun r1=>
  some (r1,(0:Int)))

def si(a1:ac)(b:ac):Option (ac×Int):=
  (pE a1 b).bind fun r=>
  (km false).bind fun r1=>
  if(r !=(0:Int))then
  (some ((⟨(0:Int),(0:Int),(0:Int),[]⟩:ac),r))
  else
  (if((decide (a1=r1))||(decide (b=r1)))then
  (some (r1,(0:Int)))
  else
  (if((a1.Kind==(0:Int))||(b.Kind==(0:Int)))then
  (some ((⟨(0:Int),(0:Int),(0:Int),[]⟩:ac),(0:Int)))
  else
  ((km true).bind fun r2=>
  some (r2,(0:Int)))))

def w9(a1:ac)(b:ac):Option (ac×Int):=
  (pE a1 b).bind fun r=>
  if(r !=(0:Int))then
  (some ((⟨(0:Int),(0:Int),(0:Int),[]⟩:ac),r))
  else
  ((iW a1).bind fun r1=>
  (iW b).bind fun r2=>
  (si r1.1 r2.1).bind fun r3=>
  (iW r3.1).bind fun r4=>
  some (r4.1,r4.2))

def sN(a1:ac)(b:ac):Option Int:=
  (dh a1).bind fun r=>
  (if(!(!r))then((dh b).bind fun r1=>
  some (!r1))else some true).bind fun t=>
  if t then
  (some (120:Int))
  else
  ((lZ a1).bind fun r2=>
  (if(!(!r2))then((lZ b).bind fun r3=>
  some (!r3))else some true).bind fun t1=>
  if(t1||(((a1.Kind !=(0:Int))&&(b.Kind !=(0:Int)))&&(a1.Kind !=b.Kind)))then
  (some (2:Int))
  else
  (some (0:Int)))

def lK(a1:ac)(b:ac):Nat→Int→Option Int
  |0,_=>none
  |n+1,i=>
    if((decide (i<(a1.S.length:Int)))&&(decide (i<(b.S.length:Int))))then
    ((Pu a1.S i).bind fun b1=>
    (Pu b.S i).bind fun b2=>
    if(b1 !=b2)then
    ((Pu a1.S i).bind fun b3=>
    (Pu b.S i).bind fun b4=>
    if(decide (b3<b4))then
    (some (-1:Int))
    else
    (some (1:Int)))
    else
    ((lK a1 b n) (IntKind.i64.wrap (i+(1:Int)))))
    else
    (if((a1.S.length:Int) !=(b.S.length:Int))then
    (if(decide ((a1.S.length:Int)<(b.S.length:Int)))then
    (some (-1:Int))
    else
    (some (1:Int)))
    else
    (some (0:Int)))

def oq(a1:ac)(b:ac):Option Int:=
  (lZ a1).bind fun r=>
  (if(!(!r))then((lZ b).bind fun r1=>
  some (!r1))else some true).bind fun t=>
  if t then
  (some (0:Int))
  else
  (if(a1.Kind !=b.Kind)then
  (if(decide (a1.Kind<b.Kind))then
  (some (-1:Int))
  else
  (some (1:Int)))
  else
  (if(a1.N !=b.N)then
  (if(decide (a1.N<b.N))then
  (some (-1:Int))
  else
  (some (1:Int)))
  else
  (lK a1 b ge (0:Int))))

def qW(a1:ac)(b:ac):Option (ac×Int):=
  (sN a1 b).bind fun r=>
  if(((r !=(0:Int))||(a1.Kind==(0:Int)))||(b.Kind==(0:Int)))then
  (some ((⟨(0:Int),(0:Int),(0:Int),[]⟩:ac),r))
  else
  ((oq a1 b).bind fun r1=>
  (km (r1==(0:Int))).bind fun r2=>
  some (r2,(0:Int)))

def mq(a1:ac)(b:ac):Option (ac×Int):=
  (sN a1 b).bind fun r=>
  if(((r !=(0:Int))||(a1.Kind==(0:Int)))||(b.Kind==(0:Int)))then
  (some ((⟨(0:Int),(0:Int),(0:Int),[]⟩:ac),r))
  else
  ((oq a1 b).bind fun r1=>
  (km (decide (r1<(0:Int)))).bind fun r2=>
  some (r2,(0:Int)))

def Eb(tag:Int)(a1:ac)(b:ac):Option (ac×Int):=
  if(tag==(16:Int))then
  ((qW a1 b).bind fun r=>
  some (r.1,r.2))
  else
  (if(tag==(18:Int))then
  ((mq a1 b).bind fun r1=>
  some (r1.1,r1.2))
  else
  (if(tag==(20:Int))then
  ((mq b a1).bind fun r2=>
  some (r2.1,r2.2))
  else
  (if(tag==(17:Int))then
  ((qW a1 b).bind fun r3=>
  (iW r3.1).bind fun r4=>
  some (r4.1,r3.2))
  else
  (if(tag==(19:Int))then
  ((mq b a1).bind fun r5=>
  (iW r5.1).bind fun r6=>
  some (r6.1,r5.2))
  else
  ((mq a1 b).bind fun r7=>
  (iW r7.1).bind fun r8=>
  some (r8.1,r7.2))))))

def Ea(tag:Int)(a1:ac)(b:ac):Option (ac×Int):=
  if(tag==(4:Int))then
  ((j4 (0:Int)).bind fun r=>
  (iM (45:Int) r a1).bind fun r1=>
  some (r1.1,r1.2))
  else
  (if(tag==(12:Int))then
  ((iM (43:Int) a1 b).bind fun r2=>
  some (r2.1,r2.2))
  else
  (if(tag==(13:Int))then
  ((iM (45:Int) a1 b).bind fun r3=>
  some (r3.1,r3.2))
  else
  (if(tag==(14:Int))then
  ((iM (42:Int) a1 b).bind fun r4=>
  some (r4.1,r4.2))
  else
  (if(tag==(15:Int))then
  ((iM (47:Int) a1 b).bind fun r5=>
  some (r5.1,r5.2))
  else
  (if(tag==(5:Int))then
  ((iW a1).bind fun r6=>
  some (r6.1,r6.2))
  else
  (if(tag==(22:Int))then
  ((si a1 b).bind fun r7=>
  some (r7.1,r7.2))
  else
  (if(tag==(23:Int))then
  ((w9 a1 b).bind fun r8=>
  some (r8.1,r8.2))
  else
  (if(tag==(6:Int))then
  ((km (a1.Kind==(0:Int))).bind fun r9=>
  some (r9,(0:Int)))
  else
  (if(tag==(7:Int))then
  ((km (a1.Kind !=(0:Int))).bind fun r10=>
  some (r10,(0:Int)))
  else
  ((Eb tag a1 b).bind fun r11=>
  some (r11.1,r11.2)))))))))))

def qH(nx1:(List ac)→ac→Option (ac×Int))(e2:bo)(own:List ac)(x1:ac)(e5:ac)(b4:ac):Option (ac×Int):=
  (Ea e2.Tag e5 b4).bind fun r2=>
  if(r2.2==(140:Int))then
  (some ((⟨(0:Int),(0:Int),(0:Int),[]⟩:ac),r2.2))
  else
  (if(r2.2 !=(0:Int))then
  (some ((⟨(0:Int),(0:Int),(0:Int),[]⟩:ac),(201:Int)))
  else
  ((app own ([r2.1])).bind fun own3=>
  nx1 own3 x1))

def dc(r:(List ac)):List bo→(List ac)→ac→Option (ac×Int)
  |[],own,x1=>
    (cE own (IntKind.i64.wrap ((own.length:Int)-(1:Int)))).bind fun e3=>
    some (e3,(0:Int))
  |e2::tl1,own,x1=>
    if(e2.Tag==(1:Int))then
    ((app own ([e2.Value])).bind fun own1=>
    (dc r tl1) own1 x1)
    else
    (if(e2.Tag==(2:Int))then
    ((cE r e2.Col).bind fun e4=>
    (app own ([e4])).bind fun own2=>
    (dc r tl1) own2 x1)
    else
    ((cE own e2.L).bind fun e5=>
    if(decide ((0:Int)≤e2.R))then
    ((cE own e2.R).bind fun e6=>
    qH (dc r tl1) e2 own x1 e5 e6)
    else
    (qH (dc r tl1) e2 own x1 e5 (⟨(0:Int),(0:Int),(0:Int),[]⟩:ac))))

def qG(e:bL)(r:(List ac)):List bo→ac→Option (ac×Int)
  |[],x=>
    dc r e.Nodes ([]:List ac) x
  |e1::tl,x=>
    (if(e1.Tag==(2:Int))then((if(!(decide ((r.length:Int)≤e1.Col)))then((cE r e1.Col).bind fun e7=>
    (lZ e7).bind fun r3=>
    some (!r3))else some true).bind fun t1=>
    some t1)else some false).bind fun t=>
    if t then
    (some ((⟨(0:Int),(0:Int),(0:Int),[]⟩:ac),(2:Int)))
    else
    ((qG e r tl) x)

def zu(e:bL)(r:(List ac)):Option (ac×Int):=
 (tK e).bind fun r1=>
 if(!r1)then
 (some ((⟨(0:Int),(0:Int),(0:Int),[]⟩:ac),(200:Int)))
 else
 (qG e r e.Nodes (⟨(0:Int),(0:Int),(0:Int),[]⟩:ac))

def qU(v:ac):Option Bool:=
 (dh v).bind fun r=>
 some (r&&((v.Kind==(0:Int))||(v.Kind==(4:Int))))

def xL(a1:eP):Option (ac×Int):=
 (vG a1).bind fun r=>
 if(!r.2.2)then
 (some ((⟨(0:Int),(0:Int),(0:Int),[]⟩:ac),(140:Int)))
 else
 (some ((⟨(4:Int),r.1,r.2.1,[]⟩:ac),(0:Int)))

def sf(s:ac)(v:ac):Option (ac×Int):=
  (dh s).bind fun r=>
  (if(!(!r))then((dh v).bind fun r1=>
  some (!r1))else some true).bind fun t=>
  if t then
  (some ((⟨(0:Int),(0:Int),(0:Int),[]⟩:ac),(120:Int)))
  else
  ((qU s).bind fun r2=>
  (if(!(!r2))then((oQ v).bind fun r3=>
  some (!r3))else some true).bind fun t1=>
  if t1 then
  (some ((⟨(0:Int),(0:Int),(0:Int),[]⟩:ac),(2:Int)))
  else
  (if(v.Kind==(0:Int))then
  (some (s,(0:Int)))
  else
  (if(s.Kind==(0:Int))then
  ((fS v.N).bind fun r4=>
  (xL r4).bind fun r5=>
  some (r5.1,r5.2))
  else
  ((qV s.N s.U).bind fun r6=>
  (fS v.N).bind fun r7=>
  (mp r6 r7).bind fun r8=>
  (xL r8).bind fun r9=>
  some (r9.1,r9.2)))))

def uS(s:ac):Option (ac×Int):=
  (dh s).bind fun r=>
  if(!r)then
  (some ((⟨(0:Int),(0:Int),(0:Int),[]⟩:ac),(120:Int)))
  else
  ((qU s).bind fun r1=>
  if(!r1)then
  (some ((⟨(0:Int),(0:Int),(0:Int),[]⟩:ac),(2:Int)))
  else
  (if(s.Kind==(0:Int))then
  (some (s,(0:Int)))
  else
  ((qV s.N s.U).bind fun r2=>
  (iH r2).bind fun r3=>
  if(!r3.2)then
  (some ((⟨(0:Int),(0:Int),(0:Int),[]⟩:ac),(140:Int)))
  else
  ((j4 r3.1).bind fun r4=>
  some (r4,(0:Int))))))

def gJ(nx:Int→Int→ac→ac→ac→Option (ac×Int))(n1:Int)(fault1:Int)(x1:ac)(sum1:ac)(best1:ac):Option (ac×Int):=
 nx n1 fault1 x1 sum1 best1

def mn(a1:hY)(nx:Int→Int→ac→ac→ac→Option (ac×Int))(n:Int)(fault:Int)(x:ac)(best:ac)(r3:ac×Int)(sum2:ac):Option (ac×Int):=
  (if(!((IntKind.i64.wrap (n+(1:Int)))==(1:Int)))then((if(a1.Tag==(4:Int))then((kU r3.1 best).bind fun r4=>
  some (decide (r4<(0:Int))))else some false).bind fun t1=>
  some t1)else some true).bind fun t=>
  (if(!t)then((if(a1.Tag==(5:Int))then((kU r3.1 best).bind fun r5=>
  some (decide ((0:Int)<r5)))else some false).bind fun t3=>
  some t3)else some true).bind fun t2=>
  if t2 then
  (gJ nx (IntKind.i64.wrap (n+(1:Int))) fault x sum2 r3.1)
  else
  (gJ nx (IntKind.i64.wrap (n+(1:Int))) fault x sum2 best)

def fV(a1:hY):List (List ac)→Int→Int→ac→ac→ac→Option (ac×Int)
  |[],n,fault,x,sum,best=>
    if(fault !=(0:Int))then
    (some ((⟨(0:Int),(0:Int),(0:Int),[]⟩:ac),fault))
    else
    (if(a1.Tag==(2:Int))then
    ((j4 n).bind fun r1=>
    some (r1,(0:Int)))
    else
    (if(a1.Tag==(3:Int))then
    ((uS sum).bind fun r2=>
    some (r2.1,r2.2))
    else
    (some (best,(0:Int)))))
  |e::tl,n,fault,x,sum,best=>
    (zu a1.Arg e).bind fun r3=>
    if(r3.2==(140:Int))then
    (gJ (fV a1 tl) n r3.2 x sum best)
    else
    (if((r3.2 !=(0:Int))||(((a1.Tag==(3:Int))&&(r3.1.Kind !=(0:Int)))&&(r3.1.Kind !=(2:Int))))then
    (some ((⟨(0:Int),(0:Int),(0:Int),[]⟩:ac),(2:Int)))
    else
    (if(r3.1.Kind==(0:Int))then
    (gJ (fV a1 tl) n fault x sum best)
    else
    (if(a1.Tag==(3:Int))then
    ((sf sum r3.1).bind fun r6=>
    mn a1 (fV a1 tl) n fault x best r3 r6.1)
    else
    (mn a1 (fV a1 tl) n fault x best r3 sum))))

def rm(a1:hY)(l:(List (List ac))):Option (ac×Int):=
  if(a1.Tag==(1:Int))then
  ((j4 (l.length:Int)).bind fun r=>
  some (r,(0:Int)))
  else
  (fV a1 l (0:Int) (0:Int) (⟨(0:Int),(0:Int),(0:Int),[]⟩:ac) (⟨(0:Int),(0:Int),(0:Int),[]⟩:ac) (⟨(0:Int),(0:Int),(0:Int),[]⟩:ac))

def um(r:(List ac)):List Int→(List ac)→Option (List ac)
 |[],out=>
  some out
 |e::tl,out=>
  (cE r e).bind fun e1=>
  (app out ([e1])).bind fun out1=>
  (um r tl) out1

def dL(f:((List ac)→Option Bool)):List (List ac)→Nat→Option Int
 |[],i=>
  some (-1:Int)
 |e::tl,i=>
  (f e).bind fun r=>
  if r then
  (some (i:Int))
  else
  ((dL f tl) (i+1))

def ig(s:(List (List ac)))(f:((List ac)→Option Bool)):Option Int:=
 dL f s 0

def cS(s:(List (List ac)))(f:((List ac)→Option Bool)):Option Bool:=
 (ig s f).bind fun r=>
 some (decide ((0:Int)≤r))

def xJ(r:(List ac)):Option Int:=
 (qd r).bind fun r1=>
 if(!r1)then
 (some (150:Int))
 else
 (some (0:Int))

def lP(r:(List ac)):Option Bool:=
 (xJ r).bind fun r1=>
 some (r1 !=(0:Int))

def mA(rows:(List (List ac))):Option Bool:=
  (if(decide ((rows.length:Int)≤(8000:Int)))then((cS rows lP).bind fun r=>
  some (!r))else some false).bind fun t=>
  some t

def rZ(r:(List ac))(o:dn):Option Bool:=
 some ((decide (o.Col<(0:Int)))||(decide ((r.length:Int)≤o.Col)))

def qv(r:(List ac))(order:(List dn)):Option Bool:=
 (dN order (rZ r)).bind fun r1=>
 some (!r1)

def oy(order:(List dn))(r:(List ac)):Option Bool:=
 (qv r order).bind fun r1=>
 some (!r1)

def t8(rows:(List (List ac)))(order:(List dn))(limit:Int):Option ((List (List ac))×Int):=
  (mA rows).bind fun r=>
  (if(!(((!r)||(decide ((3:Int)<(order.length:Int))))||(decide (limit<(-1:Int)))))then((cS rows (oy order)).bind fun r1=>
  some r1)else some true).bind fun t=>
  if t then
  (some ([],(2:Int)))
  else
  ((m8 rows order limit).bind fun r2=>
  some (r2,(0:Int)))

def ir(r:(List ac)):List dn→Option Bool
 |[]=>
  (tL r).bind fun r1=>
  some r1
 |e::tl=>
  if((decide (e.Col<(0:Int)))||(decide ((r.length:Int)≤e.Col)))then
  (some false)
  else
  ((ir r tl))

def db(c:(List dn))(r:(List ac)):Option Bool:=
 ir r c

def r0(a1:(List ac))(b:(List ac))(order:(List dn)):Option Bool:=
  (mA ([a1,b])).bind fun r=>
  (if(!(!r))then((qv a1 order).bind fun r1=>
  some (!r1))else some true).bind fun t=>
  (if(!t)then((qv b order).bind fun r2=>
  some (!r2))else some true).bind fun t1=>
  if t1 then
  (some false)
  else
  ((vd order).bind fun r3=>
  (r3 a1 b).bind fun r4=>
  (gH r4 (0:Int)).bind fun r5=>
  some (decide (r5<(0:Int))))

def eS(rows:(List (List ac)))(order:(List dn))(limit:Int)(r2:(List (List ac))×Int)(ok:Bool):List (List ac)→Nat→Option Bool
  |[],i1=>
    if(!ok)then
    (some (((r2.1.length:Int)==(0:Int))&&(r2.2==(2:Int))))
    else
    ((if(r2.2==(0:Int))then((sH rows order limit).bind fun r3=>
    (vF r2.1 r3).bind fun r4=>
    some r4)else some false).bind fun t=>
    some t)
  |e1::tl1,i1=>
    (cE rows (IntKind.i64.wrap ((i1:Int)-(1:Int)))).bind fun e2=>
    ((db order) e2).bind fun r5=>
    (if r5 then(((db order) e1).bind fun r6=>
    some r6)else some false).bind fun t1=>
    (if t1 then((nu e2 e1 order).bind fun r7=>
    some r7)else some false).bind fun t2=>
    (r0 e2 e1 order).bind fun r8=>
    if(r8 !=t2)then
    (some false)
    else
    ((eS rows order limit r2 ok tl1) (i1+1))

def gV(rows:(List (List ac)))(order:(List dn))(limit:Int)(r2:(List (List ac))×Int):List (List ac)→Bool→Option Bool
  |[],ok=>
    eS rows order limit r2 ok (rows.drop (1)) 1
  |e::tl,ok=>
    (if ok then(((db order) e).bind fun r9=>
    some r9)else some false).bind fun t3=>
    (gV rows order limit r2 tl) t3

def ne(rows:(List (List ac)))(order:(List dn))(limit:Int):Option Bool:=
  (tR).bind fun r=>
  if(!r)then
  (some false)
  else
  ((pJ rows (100:Int)).bind fun r1=>
  if(r1||(decide ((20:Int)<(order.length:Int))))then
  (some true)
  else
  ((t8 rows order limit).bind fun r2=>
  gV rows order limit r2 rows ((decide ((order.length:Int)≤(3:Int)))&&(decide ((-1:Int)≤limit)))))

end Go.Proofs.YtfhhakidodmdfaaGreatDoor

