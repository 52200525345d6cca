/- cP of this claim: F. -/
import Derived.Test.YtfhhakidodmdfaaGreatDoorJgD
import Derived.Test.YtfhhakidodmdfaaGreatDoorJgV4
set_option linter.all false
namespace Go.Proofs.YtfhhakidodmdfaaGreatDoor
open Go

def fy(f:(Int→Option Bool)):List Int→Nat→Option Int
 |[],i=>
  some (-1:Int)
 |e::tl,i=>
  (f e).bind fun r=>
  if r then
  (some (i:Int))
  else
  ((fy f tl) (i+1))

def lw(s:(List Int))(f:(Int→Option Bool)):Option Int:=
 fy f s 0

def cB(s:(List Int))(f:(Int→Option Bool)):Option Bool:=
 (lw s f).bind fun r=>
 some (decide ((0:Int)≤r))

def C4(k:Int):Option Bool:=
 some (((k==(1:Int))||(k==(2:Int)))||(k==(3:Int)))

def js(k:Int):Option Bool:=
 (C4 k).bind fun r=>
 some (!r)

def fR(c:aE)(n:aj):Option ((List Int)×Bool):=
  (if((((decide ((0:Int)≤n.Table))&&(decide (n.Table<(4:Int))))&&(decide ((1:Int)≤(n.Kinds.length:Int))))&&(decide ((n.Kinds.length:Int)≤(4:Int))))then((cB n.Kinds js).bind fun r=>
  some (!r))else some false).bind fun t=>
  some (n.Kinds,t)

def mB(s:List Int):Option (List Int):=
 some s

def mC(n:Int):Option (List Int):=
  if(decide ((0:Int)<(IntKind.i64.wrap (n-(IntKind.i64.wrap ((0:Int)-(0:Int)))))))then
  ((WG (IntKind.i64.wrap (n-(IntKind.i64.wrap ((0:Int)-(0:Int)))))).bind fun _=>
  (nQ (IntKind.i64.wrap (n-(IntKind.i64.wrap ((0:Int)-(0:Int))))) (0:Int)).bind fun mk=>
  (dA mk 0 (0:Int)).bind fun y=>
  mB y)
  else
  (mB ([]:List Int))

def lH(n:Int):Option (List Int):=
 if(decide (n<(0:Int)))then
 (none)
 else
 (mC n)

def ji:List (List Int)→(List Int)→Option (List Int)
 |[],newslice=>
  some newslice
 |e1::tl1,newslice=>
  (app newslice e1).bind fun newslice1=>
  (ji tl1) newslice1

def jj(slices:(List (List Int))):List (List Int)→Int→Option (List Int)
 |[],size=>
  (lH size).bind fun r=>
  ji slices r
 |e::tl,size=>
  if(decide ((IntKind.i64.wrap (size+(e.length:Int)))<(0:Int)))then
  (none)
  else
  ((jj slices tl) (IntKind.i64.wrap (size+(e.length:Int))))

def iT(slices:(List (List Int))):Option (List Int):=
 jj slices slices (0:Int)

def pC(tag:Int):Option Int:=
  if((tag==(1:Int))||(tag==(2:Int)))then
  (some (0:Int))
  else
  (if((decide ((4:Int)≤tag))&&(decide (tag≤(7:Int))))then
  (some (1:Int))
  else
  (if((decide ((12:Int)≤tag))&&(decide (tag≤(23:Int))))then
  (some (2:Int))
  else
  (some (-1:Int))))

def ky(v1:ac):Option ac:=
 some v1

def p5(v2:ac):Option ac:=
 ky (ac.mk (0:Int) v2.N v2.U v2.S)

def pZ(v:ac):Option ac:=
 p5 (ac.mk v.Kind (0:Int) v.U v.S)

def pY(v3:ac):Option ac:=
 ky v3

def xv(v:ac):Option ac:=
  if(v.Kind==(1:Int))then
  (if((v.N !=(0:Int))&&(v.N !=(1:Int)))then
  (ky v)
  else
  (pZ v))
  else
  (if(v.Kind==(2:Int))then
  (pZ v)
  else
  (if(v.Kind==(0:Int))then
  (p5 v)
  else
  (if(v.Kind==(3:Int))then
  (if(decide ((v.S.length:Int)≤(40:Int)))then
  (pY (ac.mk (0:Int) v.N v.U ([])))
  else
  (pY v))
  else
  (if(v.Kind==(4:Int))then
  (ky (ac.mk (0:Int) (0:Int) (0:Int) v.S))
  else
  (ky v)))))

def k6(v:ac):Option Int:=
 (xv v).bind fun r=>
 if(!decide (r=(⟨(0:Int),(0:Int),(0:Int),[]⟩:ac)))then
 (some (120:Int))
 else
 (some (0:Int))

def ml(v:ac):Option Bool:=
 (k6 v).bind fun r=>
 some ((r==(0:Int))&&(v.Kind !=(4:Int)))

def uE(n:bo):Option Bool:=
  if(n.Tag==(1:Int))then
  ((ml n.Value).bind fun r=>
  some (r&&(n.Col==(0:Int))))
  else
  (if(n.Tag==(2:Int))then
  (some (((decide (n.Value=(⟨(0:Int),(0:Int),(0:Int),[]⟩:ac)))&&(decide ((0:Int)≤n.Col)))&&(decide (n.Col<(16:Int)))))
  else
  (some ((decide (n.Value=(⟨(0:Int),(0:Int),(0:Int),[]⟩:ac)))&&(n.Col==(0:Int)))))

def mb(nx:Nat→(List Int)→(List Int)→Option ((List Int)×Bool))(i:Nat)(e1:bo)(all:List Int)(open1:List Int)(r:Int):List Int→Nat→Int→(List Int)→Option ((List Int)×Bool)
  |[],i1,first,at1=>
    if(!decide (at1=([e1.L,e1.R])))then
    (some ([],false))
    else
    ((app all ([first])).bind fun all1=>
    (dA open1 0 (IntKind.i64.wrap ((open1.length:Int)-r))).bind fun y1=>
    (app y1 ([(i:Int)])).bind fun open2=>
    nx (i+1) all1 open2)
  |e2::tl1,i1,first,at1=>
    (cN all e2).bind fun e3=>
    (cN at1 (i1:Int)).bind fun e4=>
    (some (at1.set (i1:Int).toNat e2)).bind fun ar=>
    (mb nx i e1 all open1 r tl1) (i1+1) (min first e3) ar

def kJ:List bo→Nat→(List Int)→(List Int)→Option ((List Int)×Bool)
  |[],i,all,open1=>
    some (all,(((open1.length:Int)==(1:Int))&&(decide ((all.length:Int)≤(1000:Int)))))
  |e1::tl,i,all,open1=>
    (pC e1.Tag).bind fun r=>
    (if(!((decide (r<(0:Int)))||(decide ((open1.length:Int)<r))))then((uE e1).bind fun r1=>
    some (!r1))else some true).bind fun t=>
    if t then
    (some ([],false))
    else
    ((dA open1 (IntKind.i64.wrap ((open1.length:Int)-r)) (open1.length:Int)).bind fun y=>
    mb (kJ tl) i e1 all open1 r y 0 (i:Int) ([(-1:Int),(-1:Int)]))

def xY(e:bG):Option ((List Int)×Bool):=
 kJ e.Nodes 0 ([]:List Int) ([]:List Int)

def qY(e:bG):Option Int:=
 (xY e).bind fun r=>
 if(!r.2)then
 (some (200:Int))
 else
 (some (0:Int))

def dZ(i:Nat)(y:List Int):Nat→Nat→(List Int)→Int→Option (List Int)
  |0,i1,s1,k=>
    (dA s1 k (s1.length:Int)).bind fun y1=>
    (some (s1.take k.toNat++List.replicate y1.length (0:Int))).bind fun cl=>
    (dA cl 0 k).bind fun y2=>
    some y2
  |k2+1,i1,s1,k=>
    (xT s1 (i:Int) y.length (i1:Int)).bind fun e3=>
    (xT s1 (i:Int) y.length (IntKind.i64.wrap ((i1:Int)-(1:Int)))).bind fun e4=>
    if(e3 !=e4)then
    ((xT s1 (i:Int) y.length (i1:Int)).bind fun e5=>
    (cN s1 k).bind fun e6=>
    (some (s1.set k.toNat e5)).bind fun st=>
    (dZ i y k2) (i1+1) st (IntKind.i64.wrap (k+(1:Int))))
    else
    ((dZ i y k2) (i1+1) s1 k)

def eK(s:(List Int)):List Int→Nat→Option (List Int)
  |[],i=>
    some s
  |e::tl,i=>
    (cN s (IntKind.i64.wrap ((i:Int)-(1:Int)))).bind fun e1=>
    if(e==e1)then
    ((dA s (i:Int) (s.length:Int)).bind fun y=>
    dZ i y (y.length-1) 1 s (i:Int))
    else
    ((eK s tl) (i+1))

def j4(s:(List Int)):Option (List Int):=
 if(decide ((s.length:Int)<(2:Int)))then
 (some s)
 else
 (eK s (s.drop (1)) 1)

def mW:List bo→(List Int)→Option (List Int)
  |[],out=>
    (Em out).bind fun uP=>
    (j4 uP).bind fun r1=>
    some r1
  |e1::tl,out=>
    if(e1.Tag==(2:Int))then
    ((app out ([e1.Col])).bind fun out1=>
    (mW tl) out1)
    else
    ((mW tl) out)

def sT(e:bG):Option (List Int):=
 (qY e).bind fun r=>
 if(r !=(0:Int))then
 (some ([]:List Int))
 else
 (mW e.Nodes ([]:List Int))

def cy(s:(List Int)):Option (List Int):=
 (app ([]:List Int) s).bind fun x=>
 some x

def ph(stack:(List Int))(k:Int):Option ((List Int)×(List Int)):=
 (dA stack (IntKind.i64.wrap ((stack.length:Int)-k)) (stack.length:Int)).bind fun y=>
 (cy y).bind fun r=>
 (dA stack 0 (IntKind.i64.wrap ((stack.length:Int)-k))).bind fun y1=>
 some (r,y1)

def ma(bad:Int)(stack:List Int):Option (Int×Int):=
  if(bad !=(0:Int))then
  (some ((0:Int),bad))
  else
  ((cN stack (0:Int)).bind fun e1=>
  some (e1,(0:Int)))

def g9(do1:(bo→(List Int)→Option (Int×Int))):List bo→Int→(List Int)→Option (Int×Int)
  |[],bad1,stack1=>
    ma bad1 stack1
  |e2::tl,bad1,stack1=>
    (pC e2.Tag).bind fun r=>
    (ph stack1 r).bind fun r1=>
    (do1 e2 r1.1).bind fun r2=>
    if(r2.2 !=(0:Int))then
    (ma r2.2 r1.2)
    else
    ((app r1.2 ([r2.1])).bind fun l2=>
    (g9 do1 tl) bad1 l2)

def o5(e:bG)(do1:(bo→(List Int)→Option (Int×Int))):Option (Int×Int):=
 g9 do1 e.Nodes (0:Int) ([]:List Int)

def wO(tag:Int):Option Bool:=
 some ((tag==(4:Int))||((decide ((12:Int)≤tag))&&(decide (tag≤(15:Int)))))

def md(kinds:(List Int))(n:bo):List Int→Int→Option (Int×Int)
  |[],own=>
    if(n.Tag==(1:Int))then
    (some (n.Value.Kind,(0:Int)))
    else
    (if(n.Tag==(2:Int))then
    ((cN kinds n.Col).bind fun e1=>
    some (e1,(0:Int)))
    else
    ((wO n.Tag).bind fun r=>
    if r then
    (if((own==(-1:Int))||((own !=(0:Int))&&(own !=(2:Int))))then
    (some ((0:Int),(201:Int)))
    else
    (some ((2:Int),(0:Int))))
    else
    (if(((n.Tag==(5:Int))||(n.Tag==(22:Int)))||(n.Tag==(23:Int)))then
    (if((own==(-1:Int))||((own !=(0:Int))&&(own !=(1:Int))))then
    (some ((0:Int),(201:Int)))
    else
    (some ((1:Int),(0:Int))))
    else
    (if((own==(-1:Int))||((own !=(0:Int))&&(own !=own)))then
    (some ((0:Int),(201:Int)))
    else
    (some ((1:Int),(0:Int)))))))
  |e::tl,own=>
    if((e==(0:Int))||(e==own))then
    ((md kinds n tl) own)
    else
    (if(own==(0:Int))then
    ((md kinds n tl) e)
    else
    ((md kinds n tl) (-1:Int)))

def jv(kinds:(List Int))(n:bo)(l:(List Int)):Option (Int×Int):=
 md kinds n l (0:Int)

def mV(e:bG)(kinds:(List Int)):List Int→Option (Int×Int)
 |[]=>
  (o5 e (jv kinds)).bind fun r2=>
  some (r2.1,r2.2)
 |e2::tl1=>
  if(decide ((kinds.length:Int)≤e2))then
  (some ((0:Int),(2:Int)))
  else
  ((mV e kinds tl1))

def qo(e:bG)(kinds:(List Int)):List Int→Option (Int×Int)
 |[]=>
  (sT e).bind fun r1=>
  mV e kinds r1
 |e1::tl=>
  if((decide (e1<(0:Int)))||(decide ((3:Int)<e1)))then
  (some ((0:Int),(2:Int)))
  else
  ((qo e kinds tl))

def sR(e:bG)(kinds:(List Int)):Option (Int×Int):=
 (qY e).bind fun r=>
 if(r !=(0:Int))then
 (some ((0:Int),r))
 else
 (qo e kinds kinds)

def rD(e:bG)(kinds:(List Int)):Option Bool:=
 (sR e kinds).bind fun r=>
 some ((r.2==(0:Int))&&((r.1==(1:Int))||(r.1==(0:Int))))

def gN(c:aE)(n:aj):Option ((List Int)×Bool):=
 (cN c.kinds n.A).bind fun e=>
 (cN c.kinds n.B).bind fun e1=>
 (iT ([e,e1])).bind fun r=>
 (rD n.Cond r).bind fun r1=>
 some (r,r1)

def fS(c:aE)(n:aj):Option ((List Int)×Bool):=
 (cN c.kinds n.A).bind fun e=>
 (rD n.Cond e).bind fun r=>
 some (e,r)

def qe(kinds:(List Int))(c:Int):Option Bool:=
 some ((decide (c<(0:Int)))||(decide ((kinds.length:Int)≤c)))

def sD(l:(List Int))(kinds:(List Int)):Option Bool:=
 (cB l (qe kinds)).bind fun r=>
 some (!r)

def sE(r:Int×Int)(x:Bool):Option (Int×Bool):=
 if x then
 (some (r.1,(r.2==(0:Int))))
 else
 (some ((0:Int),false))

def yH(a1:gS)(kinds:(List Int)):Option (Int×Bool):=
  if(a1.Tag==(1:Int))then
  (some ((2:Int),((a1.Arg.Nodes.length:Int)==(0:Int))))
  else
  ((sR a1.Arg kinds).bind fun r=>
  if(a1.Tag==(2:Int))then
  (some ((2:Int),(r.2==(0:Int))))
  else
  (if(a1.Tag==(3:Int))then
  (some ((2:Int),((r.2==(0:Int))&&((r.1==(2:Int))||(r.1==(0:Int))))))
  else
  (if(a1.Tag==(4:Int))then
  (sE r (a1.Tag==(4:Int)))
  else
  (sE r (a1.Tag==(5:Int))))))

def eT(e:(List Int)):List gS→(List Int)→Bool→Option ((List Int)×Bool)
 |[],out1,ok=>
  some (out1,ok)
 |e2::tl1,out1,ok=>
  (yH e2 e).bind fun r1=>
  (app out1 ([r1.1])).bind fun out2=>
  (eT e tl1) out2 (ok&&r1.2)

def gj(n:aj)(e:(List Int))(t:Bool):List Int→(List Int)→Option ((List Int)×Bool)
 |[],out=>
  eT e n.Aggs out t
 |e1::tl,out=>
  (cN e e1).bind fun e3=>
  (app out ([e3])).bind fun out3=>
  (gj n e t tl) out3

def gy(c:aE)(n:aj):Option ((List Int)×Bool):=
  (cN c.kinds n.A).bind fun e=>
  (if(((decide ((n.Keys.length:Int)≤(3:Int)))&&(decide ((n.Aggs.length:Int)≤(12:Int))))&&(decide ((0:Int)<(IntKind.i64.wrap ((n.Keys.length:Int)+(n.Aggs.length:Int))))))then((sD n.Keys e).bind fun r=>
  some r)else some false).bind fun t=>
  if(!t)then
  (some ([],false))
  else
  (gj n e t n.Keys ([]:List Int))

def fg(c:aE)(n:aj):List bG→(List Int)→Bool→Option ((List Int)×Bool)
 |[],out,ok=>
  some (out,ok)
 |e::tl,out,ok=>
  (cN c.kinds n.A).bind fun e1=>
  (sR e e1).bind fun r=>
  (app out ([r.1])).bind fun out1=>
  (fg c n tl) out1 (ok&&(r.2==(0:Int)))

def fq(c:aE)(n:aj):Option ((List Int)×Bool):=
 fg c n n.Items ([]:List Int) ((decide ((1:Int)≤(n.Items.length:Int)))&&(decide ((n.Items.length:Int)≤(16:Int))))

def eV(c:aE)(n:aj):Option ((List Int)×Bool):=
 (cN c.kinds n.A).bind fun e=>
 some (e,true)

def ir(nx:Nat→(List Int)→Bool→Option ((List Int)×Bool))(i:Nat)(e2:Int)(ok:Bool)(out1:List Int):Option ((List Int)×Bool):=
  (if ok then((cN out1 (i:Int)).bind fun e3=>
  some ((e3==e2)||(e2==(0:Int))))else some false).bind fun t=>
  nx (i+1) out1 t

def dC:List Int→Nat→(List Int)→Bool→Option ((List Int)×Bool)
  |[],i,out,ok=>
    some (out,ok)
  |e2::tl,i,out,ok=>
    (cN out (i:Int)).bind fun e4=>
    if(e4==(0:Int))then
    ((some (out.set (i:Int).toNat e2)).bind fun st=>
    ir (dC tl) i e2 ok st)
    else
    (ir (dC tl) i e2 ok out)

def gw(c:aE)(n:aj):Option ((List Int)×Bool):=
  (cN c.kinds n.A).bind fun e=>
  (cN c.kinds n.B).bind fun e1=>
  if((e.length:Int) !=(e1.length:Int))then
  (some ([],false))
  else
  ((cy e).bind fun r=>
  dC e1 0 r true)

def dE(f:(gG→Option Bool)):List gG→Nat→Option Int
 |[],i=>
  some (-1:Int)
 |e::tl,i=>
  (f e).bind fun r=>
  if r then
  (some (i:Int))
  else
  ((dE f tl) (i+1))

def il(s:(List gG))(f:(gG→Option Bool)):Option Int:=
 dE f s 0

def ez(s:(List gG))(f:(gG→Option Bool)):Option Bool:=
 (il s f).bind fun r=>
 some (decide ((0:Int)≤r))

def kK(in1:(List Int))(o:gG):Option Bool:=
 some ((decide (o.Col<(0:Int)))||(decide ((in1.length:Int)≤o.Col)))

def gx(c:aE)(n:aj):Option ((List Int)×Bool):=
  (cN c.kinds n.A).bind fun e=>
  (if(decide ((n.Order.length:Int)≤(3:Int)))then((ez n.Order (kK e)).bind fun r=>
  some (!r))else some false).bind fun t=>
  some (e,(((t&&(decide ((-1:Int)≤n.Limit)))&&(decide (n.Limit≤(2147483647:Int))))&&((c.kinds.length:Int)==(IntKind.i64.wrap ((c.Logic.Nodes.length:Int)-(1:Int))))))

def tB(n:aj):Option Bool:=
 some (((((((((n.Table==(0:Int))&&((n.Kinds.length:Int)==(0:Int)))&&(!n.Left))&&((n.Cond.Nodes.length:Int)==(0:Int)))&&((n.Keys.length:Int)==(0:Int)))&&((n.Aggs.length:Int)==(0:Int)))&&((n.Items.length:Int)==(0:Int)))&&((n.Order.length:Int)==(0:Int)))&&(n.Limit==(0:Int)))

def tE(n:aj):Option aj:=
  if(n.Op==(1:Int))then
  (some (aj.mk n.Op n.A n.B (0:Int) ([]) n.Left n.Cond n.Keys n.Aggs n.Items n.Order n.Limit))
  else
  (if(n.Op==(2:Int))then
  (some (aj.mk n.Op n.A n.B n.Table n.Kinds false (⟨[]⟩:bG) n.Keys n.Aggs n.Items n.Order n.Limit))
  else
  (if(n.Op==(3:Int))then
  (some (aj.mk n.Op n.A n.B n.Table n.Kinds n.Left (⟨[]⟩:bG) n.Keys n.Aggs n.Items n.Order n.Limit))
  else
  (if(n.Op==(4:Int))then
  (some (aj.mk n.Op n.A n.B n.Table n.Kinds n.Left n.Cond ([]) ([]) n.Items n.Order n.Limit))
  else
  (if(n.Op==(5:Int))then
  (some (aj.mk n.Op n.A n.B n.Table n.Kinds n.Left n.Cond n.Keys n.Aggs ([]) n.Order n.Limit))
  else
  (if(n.Op==(8:Int))then
  (some (aj.mk n.Op n.A n.B n.Table n.Kinds n.Left n.Cond n.Keys n.Aggs n.Items ([]) (0:Int)))
  else
  (some n))))))

def qf(x:Bool):Option Int:=
 if x then
 (some (2:Int))
 else
 (some (1:Int))

def uv(op:Int):Option Int:=
  if(op==(1:Int))then
  (some (0:Int))
  else
  (if(op==(2:Int))then
  (qf (op==(2:Int)))
  else
  (qf (op==(7:Int))))

def jP(c:aE)(i:Int):Option (Int×Bool):=
  (cN c.Logic.Nodes i).bind fun e=>
  (uv e.Op).bind fun r=>
  if(r==(0:Int))then
  (some (i,((e.A==(-1:Int))&&(e.B==(-1:Int)))))
  else
  (if(r==(1:Int))then
  (if(((e.A !=(IntKind.i64.wrap (i-(1:Int))))||(e.B !=(-1:Int)))||(i==(0:Int)))then
  (some ((0:Int),false))
  else
  ((cN c.first e.A).bind fun e1=>
  some (e1,true)))
  else
  ((if(!((e.B !=(IntKind.i64.wrap (i-(1:Int))))||(i==(0:Int))))then((cN c.first e.B).bind fun e2=>
  some (e.A !=(IntKind.i64.wrap (e2-(1:Int)))))else some true).bind fun t=>
  if(t||(decide (e.A<(0:Int))))then
  (some ((0:Int),false))
  else
  ((cN c.first e.A).bind fun e3=>
  some (e3,true))))

def gk{Sg:Type}(yld:(Int×Bool)→Sg→Option (Bool×Sg))(nx:Nat→Sg→aE→Option (Sg×aE))(i:Nat)(s1:Sg)(ok1:Bool)(kinds:(List Int))(ob2:aE):Option (Sg×aE):=
 (app ob2.kinds ([kinds])).bind fun l6=>
 (yld ((i:Int),(ok1&&(decide ((kinds.length:Int)≤(16:Int))))) s1).bind fun r2=>
 if((!r2.1)||(!(ok1&&(decide ((kinds.length:Int)≤(16:Int))))))then
 (some (r2.2,({ob2 with kinds:=l6}:aE)))
 else
 (nx (i+1) r2.2 ({ob2 with kinds:=l6}:aE))

def d4{Sg:Type}(yld:(Int×Bool)→Sg→Option (Bool×Sg))(nx:Nat→Sg→aE→Option (Sg×aE))(i:Nat)(e2:aj)(s1:Sg)(ok:Bool)(ob1:aE):Option (Sg×aE):=
  if ok then
  ((((pw (dj (dj (dj (dj (dj (dj (dj (dj ([]:List (Int×(aE→aj→Option (((List Int)×Bool)×aE)))) (1:Int) (fun(mc:aE) (mx:aj)=>(fR mc mx).map fun mr=>(mr,mc))) (2:Int) (fun(mc:aE) (mx:aj)=>(gN mc mx).map fun mr=>(mr,mc))) (3:Int) (fun(mc:aE) (mx:aj)=>(fS mc mx).map fun mr=>(mr,mc))) (4:Int) (fun(mc:aE) (mx:aj)=>(gy mc mx).map fun mr=>(mr,mc))) (5:Int) (fun(mc:aE) (mx:aj)=>(fq mc mx).map fun mr=>(mr,mc))) (6:Int) (fun(mc:aE) (mx:aj)=>(eV mc mx).map fun mr=>(mr,mc))) (7:Int) (fun(mc:aE) (mx:aj)=>(gw mc mx).map fun mr=>(mr,mc))) (8:Int) (fun(mc:aE) (mx:aj)=>(gx mc mx).map fun mr=>(mr,mc))) e2.Op).getD (fun _ _=>none)) ob1 (e2)).bind fun r3=>
  gk yld nx i s1 r3.1.2 r3.1.1 r3.2)
  else
  (gk yld nx i s1 ok ([]) ob1)

def bE{Sg:Type}(yld:(Int×Bool)→Sg→Option (Bool×Sg)):List aj→Nat→Sg→aE→Option (Sg×aE)
  |[],i,s1,ob=>
    some (s1,ob)
  |e2::tl,i,s1,ob=>
    (if((pw (dj (dj (dj (dj (dj (dj (dj (dj ([]:List (Int×(aE→aj→Option (((List Int)×Bool)×aE)))) (1:Int) (fun(mc:aE) (mx:aj)=>(fR mc mx).map fun mr=>(mr,mc))) (2:Int) (fun(mc:aE) (mx:aj)=>(gN mc mx).map fun mr=>(mr,mc))) (3:Int) (fun(mc:aE) (mx:aj)=>(fS mc mx).map fun mr=>(mr,mc))) (4:Int) (fun(mc:aE) (mx:aj)=>(gy mc mx).map fun mr=>(mr,mc))) (5:Int) (fun(mc:aE) (mx:aj)=>(fq mc mx).map fun mr=>(mr,mc))) (6:Int) (fun(mc:aE) (mx:aj)=>(eV mc mx).map fun mr=>(mr,mc))) (7:Int) (fun(mc:aE) (mx:aj)=>(gw mc mx).map fun mr=>(mr,mc))) (8:Int) (fun(mc:aE) (mx:aj)=>(gx mc mx).map fun mr=>(mr,mc))) e2.Op).isSome)then((tE e2).bind fun r=>
    (tB r).bind fun r1=>
    some r1)else some false).bind fun t=>
    if t then
    ((jP ob (i:Int)).bind fun r4=>
    (app ob.first ([r4.1])).bind fun l7=>
    d4 yld (bE yld tl) i e2 s1 r4.2 ({ob with first:=l7}:aE))
    else
    (d4 yld (bE yld tl) i e2 s1 t ob)

def lI{Sg:Type}(c:aE)(yld:(Int×Bool)→Sg→Option (Bool×Sg))(s:Sg):Option (Sg×aE):=
 bE yld c.Logic.Nodes 0 s c

def qg(c:aE):Option (Pr (Int×Bool) aE):=
 some (fun _=>lI c)

def o3(x:Int×Bool)(x1:Bool)(x2:Int)(p:Bool):Option (Option Nat×(Bool×Int×Bool)):=
 if(!x.2)then
 (some (some 0,(false,x.1,true)))
 else
 (some (none,(x1,x2,p)))

def px(l:bc):Option (aE×Int×Bool):=
  if((decide ((l.Nodes.length:Int)<(1:Int)))||(decide ((60:Int)<(l.Nodes.length:Int))))then
  (some ((⟨l,[],[]⟩:aE),(0:Int),false))
  else
  ((qg (⟨l,[],[]⟩:aE)).bind fun it=>
  (it (Option Nat×(Bool×Int×Bool)) (wP (fun x s=>o3 x s.1 s.2.1 s.2.2)) (none,(false,(0:Int),false))).bind fun r=>
  if r.1.1.isNone then
  ((cN r.2.first (IntKind.i64.wrap ((l.Nodes.length:Int)-(1:Int)))).bind fun e=>
  some (r.2,(IntKind.i64.wrap ((l.Nodes.length:Int)-(1:Int))),(e==(0:Int))))
  else
  ((isT r.1.2.2.2).bind fun _=>
  some (r.2,r.1.2.2.1,r.1.2.1)))

def mp(l:bc):Option (Int×Int):=
 (px l).bind fun r=>
 if(!r.2.2)then
 (some (r.2.1,(230:Int)))
 else
 (some ((0:Int),(0:Int)))

def mf(kinds:(List Int))(nx:Option Bool):List ac→Nat→Option Bool
  |[],i1=>
    nx
  |e1::tl1,i1=>
    (k6 e1).bind fun r=>
    (if(!(r !=(0:Int)))then((if(e1.Kind !=(0:Int))then((cN kinds (i1:Int)).bind fun e2=>
    some (e1.Kind !=e2))else some false).bind fun t1=>
    some t1)else some true).bind fun t=>
    if t then
    (some false)
    else
    ((mf kinds nx tl1) (i1+1))

def mg(kinds:(List Int)):List (List ac)→Option Bool
 |[]=>
  some true
 |e::tl=>
  if((e.length:Int) !=(kinds.length:Int))then
  (some false)
  else
  (mf kinds (mg kinds tl) e 0)

def rJ(rows:(List (List ac)))(kinds:(List Int)):Option Bool:=
 if(decide ((12:Int)<(rows.length:Int)))then
 (some false)
 else
 (mg kinds rows)

def ox(b:dx):List aj→Option Bool
  |[]=>
    some true
  |e::tl=>
    (if(e.Op==(1:Int))then((if(!(decide ((b.Tables.length:Int)≤e.Table)))then((cN b.Tables e.Table).bind fun e1=>
    (rJ e1 e.Kinds).bind fun r1=>
    some (!r1))else some true).bind fun t1=>
    some t1)else some false).bind fun t=>
    if t then
    (some false)
    else
    ((ox b tl))

def uH(l:bc)(b:dx):Option Bool:=
 (mp l).bind fun r=>
 if(r.2 !=(0:Int))then
 (some false)
 else
 (ox b l.Nodes)

def rE(l:bc):Option ((List Int)×Int):=
  (px l).bind fun r=>
  if(!r.2.2)then
  (some ([],(230:Int)))
  else
  ((cN r.1.kinds r.2.1).bind fun e=>
  (cy e).bind fun r1=>
  some (r1,(0:Int)))

def kU(r:cS)(n:aj):Option ((List (List ac))×Int):=
 (cN r.Base.Tables n.Table).bind fun e=>
 some (e,(0:Int))

def im(s:List ac):Option (List ac):=
 some s

def io(n:Int):Option (List ac):=
  if(decide ((0:Int)<(IntKind.i64.wrap (n-(IntKind.i64.wrap ((0:Int)-(0:Int)))))))then
  ((WG (IntKind.i64.wrap (n-(IntKind.i64.wrap ((0:Int)-(0:Int)))))).bind fun _=>
  (nQ (IntKind.i64.wrap (n-(IntKind.i64.wrap ((0:Int)-(0:Int))))) (⟨(0:Int),(0:Int),(0:Int),[]⟩:ac)).bind fun mk=>
  (dA mk 0 (0:Int)).bind fun y=>
  im y)
  else
  (im ([]:List ac))

def gB(n:Int):Option (List ac):=
 if(decide (n<(0:Int)))then
 (none)
 else
 (io n)

def eP:List (List ac)→(List ac)→Option (List ac)
 |[],newslice=>
  some newslice
 |e1::tl1,newslice=>
  (app newslice e1).bind fun newslice1=>
  (eP tl1) newslice1

def eQ(slices:(List (List ac))):List (List ac)→Int→Option (List ac)
 |[],size=>
  (gB size).bind fun r=>
  eP slices r
 |e::tl,size=>
  if(decide ((IntKind.i64.wrap (size+(e.length:Int)))<(0:Int)))then
  (none)
  else
  ((eQ slices tl) (IntKind.i64.wrap (size+(e.length:Int))))

def dv(slices:(List (List ac))):Option (List ac):=
 eQ slices slices (0:Int)

def fG{Sg:Type}(yld:(Int×(List ac))→Sg→Option (Bool×Sg))(nx:Nat→Sg→Option Sg)(i:Nat)(e2:(List ac)):List (List ac)→Sg→Option Sg
 |[],s2=>
  nx (i+1) s2
 |e4::tl1,s2=>
  (dv ([e2,e4])).bind fun r=>
  (yld ((i:Int),r) s2).bind fun r1=>
  if(!r1.1)then
  (some r1.2)
  else
  ((fG yld nx i e2 tl1) r1.2)

def dI{Sg:Type}(b:(List (List ac)))(yld:(Int×(List ac))→Sg→Option (Bool×Sg)):List (List ac)→Nat→Sg→Option Sg
 |[],i,s1=>
  some s1
 |e2::tl,i,s1=>
  fG yld (dI b yld tl) i e2 b s1

def me{Sg:Type}(a1:(List (List ac)))(b:(List (List ac)))(yld:(Int×(List ac))→Sg→Option (Bool×Sg))(s:Sg):Option Sg:=
 dI b yld a1 0 s

def wu(a1:(List (List ac)))(b:(List (List ac))):Option (It (Int×(List ac))):=
 some (fun _=>me a1 b)

def lB(do1:(ac→ac→Option (ac×Int)))(a1:ac)(b:ac):Option (ac×Int):=
 (do1 b a1).bind fun r=>
 some (r.1,r.2)

def Da(do1:(ac→ac→Option (ac×Int))):Option (ac→ac→Option (ac×Int)):=
 some (lB do1)

def pm:Option ac:=
 some (⟨(0:Int),(0:Int),(0:Int),[]⟩:ac)

def uO(v:ac):Option ac:=
 some v

def pn(b:Bool):Option ac:=
 if b then
 (uO (ac.mk (⟨(1:Int),(0:Int),(0:Int),[]⟩:ac).Kind (1:Int) (⟨(1:Int),(0:Int),(0:Int),[]⟩:ac).U (⟨(1:Int),(0:Int),(0:Int),[]⟩:ac).S))
 else
 (uO (⟨(1:Int),(0:Int),(0:Int),[]⟩:ac))

def jn:List ac→Option Int
 |[]=>
  some (0:Int)
 |e::tl=>
  (k6 e).bind fun r=>
  if(r !=(0:Int))then
  (some r)
  else
  ((jn tl))

def pG(l:(List ac)):Option Int:=
 jn l

def nE(p:Int):Option Bool:=
 some (p !=p)

def iM(p:Int)(y:Int):Option Int:=
  (nE p).bind fun r=>
  (nE y).bind fun r1=>
  if r then
  (if r1 then
  (some (0:Int))
  else
  (some (-1:Int)))
  else
  (if r1 then
  (some (1:Int))
  else
  (if(decide (p<y))then
  (some (-1:Int))
  else
  (if(decide (y<p))then
  (some (1:Int))
  else
  (some (0:Int)))))

def fW:List Int→Option Int
 |[]=>
  some (0:Int)
 |e::tl=>
  if(e !=(0:Int))then
  (some e)
  else
  ((fW tl))

def mY(vals:(List Int)):Option Int:=
 fW vals

def kV(p:Int):Option Bool:=
 some (p !=p)

def gD(p:Int)(y:Int):Option Int:=
  (kV p).bind fun r=>
  (kV y).bind fun r1=>
  if r then
  (if r1 then
  (some (0:Int))
  else
  (some (-1:Int)))
  else
  (if r1 then
  (some (1:Int))
  else
  (if(decide (p<y))then
  (some (-1:Int))
  else
  (if(decide (y<p))then
  (some (1:Int))
  else
  (some (0:Int)))))

def ja(a1:xb)(b:xb):Option Int:=
 some (V2 a1 b)

def pe(a1:xb)(b:xb):Option Int:=
 (ja a1 b).bind fun r=>
 some r

def lu(a1:ac)(b:ac):Option Int:=
  (ml a1).bind fun r=>
  (if(!(!r))then((ml b).bind fun r1=>
  some (!r1))else some true).bind fun t=>
  if t then
  (some (0:Int))
  else
  ((iM a1.Kind b.Kind).bind fun r2=>
  (gD a1.N b.N).bind fun r3=>
  (pe a1.S b.S).bind fun r4=>
  (mY ([r2,r3,r4])).bind fun r5=>
  some r5)

def qF(a1:ac)(b:ac)(is1:(Int→Option Bool)):Option (ac×Int):=
  (pG ([a1,b])).bind fun r=>
  if(r !=(0:Int))then
  (some ((⟨(0:Int),(0:Int),(0:Int),[]⟩:ac),r))
  else
  (if(((a1.Kind==(4:Int))||(b.Kind==(4:Int)))||((!((a1.Kind==(0:Int))||(b.Kind==(0:Int))))&&(a1.Kind !=b.Kind)))then
  (some ((⟨(0:Int),(0:Int),(0:Int),[]⟩:ac),(2:Int)))
  else
  (if((a1.Kind==(0:Int))||(b.Kind==(0:Int)))then
  ((pm).bind fun r1=>
  some (r1,(0:Int)))
  else
  ((lu a1 b).bind fun r2=>
  (is1 r2).bind fun r3=>
  (pn r3).bind fun r4=>
  some (r4,(0:Int)))))

def AR(c:Int):Option Bool:=
 some (decide (c<(0:Int)))

def nS(a1:ac)(b:ac):Option (ac×Int):=
 (qF a1 b AR).bind fun r=>
 some (r.1,r.2)

def mU(do1:(ac→Option (ac×Int)))(a1:ac)(x:ac):Option (ac×Int):=
 (do1 a1).bind fun r=>
 some (r.1,r.2)

def Al(do1:(ac→Option (ac×Int))):Option (ac→ac→Option (ac×Int)):=
 some (mU do1)

def oC(n:Int):Option ac:=
 some (⟨(2:Int),n,(0:Int),[]⟩:ac)

def j7(kind:Int):List ac→Int→Option Int
  |[],e=>
    some e
  |e1::tl,e=>
    (k6 e1).bind fun r=>
    if(r !=(0:Int))then
    (some (120:Int))
    else
    (if((e1.Kind !=(0:Int))&&(e1.Kind !=kind))then
    ((j7 kind tl) (2:Int))
    else
    ((j7 kind tl) e))

def pO(kind:Int)(l:(List ac)):Option Int:=
 j7 kind l (0:Int)

def rK(a1:ac)(b:ac)(to1:(Int→Int→Option (Int×Bool))):Option (ac×Int):=
  (pO (2:Int) ([a1,b])).bind fun r=>
  if(r !=(0:Int))then
  (some ((⟨(0:Int),(0:Int),(0:Int),[]⟩:ac),r))
  else
  (if((a1.Kind==(0:Int))||(b.Kind==(0:Int)))then
  ((pm).bind fun r1=>
  some (r1,(0:Int)))
  else
  ((to1 a1.N b.N).bind fun r2=>
  if(!r2.2)then
  (some ((⟨(0:Int),(0:Int),(0:Int),[]⟩:ac),(140:Int)))
  else
  ((oC r2.1).bind fun r3=>
  some (r3,(0:Int)))))

def pP(a1:Int)(b:Int):Option (Int×Bool):=
 some ((IntKind.i64.wrap (a1-b)),decide ((0:Int)≤(fc .and .i64 (fc .xor .i64 a1 b) (fc .xor .i64 a1 (IntKind.i64.wrap (a1-b))))))

def vB(a1:ac)(b:ac):Option (ac×Int):=
 (rK a1 b pP).bind fun r=>
 some (r.1,r.2)

def yR(a1:ac):Option (ac×Int):=
 (oC (0:Int)).bind fun r=>
 (vB r a1).bind fun r1=>
 some (r1.1,r1.2)

def xu(v:ac):Option Int:=
 if(v.Kind==(0:Int))then
 (some (1:Int))
 else
 (some (IntKind.i64.wrap ((2:Int)*v.N)))

def lM(to1:((List Int)→Option Int)):List ac→(List Int)→ac→Option (ac×Int)
  |[],n,x=>
    (to1 n).bind fun r1=>
    (cN gv2 r1).bind fun e1=>
    some (e1,(0:Int))
  |e::tl,n,x=>
    if(decide ((1:Int)<e.Kind))then
    (some ((⟨(0:Int),(0:Int),(0:Int),[]⟩:ac),(2:Int)))
    else
    ((xu e).bind fun r2=>
    (app n ([r2])).bind fun n1=>
    (lM to1 tl) n1 x)

def nR(to1:((List Int)→Option Int))(l:(List ac)):Option (ac×Int):=
 (pG l).bind fun r=>
 if(r !=(0:Int))then
 (some ((⟨(0:Int),(0:Int),(0:Int),[]⟩:ac),r))
 else
 (lM to1 l ([]:List Int) (⟨(0:Int),(0:Int),(0:Int),[]⟩:ac))

def CW(l:(List Int)):Option Int:=
 (cN l (0:Int)).bind fun e=>
 some (IntKind.i64.wrap ((2:Int)-e))

def qG(a1:ac):Option (ac×Int):=
 (nR CW ([a1])).bind fun r=>
 some (r.1,r.2)

def oo(is1:Bool)(a1:ac)(x:ac):Option (ac×Int):=
 (pn ((a1.Kind==(0:Int))==is1)).bind fun r=>
 some (r,(0:Int))

def Cq(is1:Bool):Option (ac→ac→Option (ac×Int)):=
 some (oo is1)

def rL(a1:Int)(b:Int):Option (Int×Bool):=
 some ((IntKind.i64.wrap (a1+b)),decide ((0:Int)≤(fc .and .i64 (fc .xor .i64 a1 (IntKind.i64.wrap (a1+b))) (fc .xor .i64 b (IntKind.i64.wrap (a1+b))))))

def CC(a1:ac)(b:ac):Option (ac×Int):=
 (rK a1 b rL).bind fun r=>
 some (r.1,r.2)

def na(p:Int)(y:Int):Option (Int×Int):=
 some ((IntKind.u64.wrap ((IntKind.u64.wrap ((IntKind.u64.wrap (((p).fdiv (2^(min (Int.toNat (32:Int)) IntKind.u64.bits)))*((y).fdiv (2^(min (Int.toNat (32:Int)) IntKind.u64.bits)))))+(((IntKind.u64.wrap ((IntKind.u64.wrap (((p).fdiv (2^(min (Int.toNat (32:Int)) IntKind.u64.bits)))*(fc .and .u64 y (4294967295:Int))))+(((IntKind.u64.wrap ((fc .and .u64 p (4294967295:Int))*(fc .and .u64 y (4294967295:Int))))).fdiv (2^(min (Int.toNat (32:Int)) IntKind.u64.bits)))))).fdiv (2^(min (Int.toNat (32:Int)) IntKind.u64.bits)))))+(((IntKind.u64.wrap ((fc .and .u64 (IntKind.u64.wrap ((IntKind.u64.wrap (((p).fdiv (2^(min (Int.toNat (32:Int)) IntKind.u64.bits)))*(fc .and .u64 y (4294967295:Int))))+(((IntKind.u64.wrap ((fc .and .u64 p (4294967295:Int))*(fc .and .u64 y (4294967295:Int))))).fdiv (2^(min (Int.toNat (32:Int)) IntKind.u64.bits))))) (4294967295:Int))+(IntKind.u64.wrap ((fc .and .u64 p (4294967295:Int))*((y).fdiv (2^(min (Int.toNat (32:Int)) IntKind.u64.bits)))))))).fdiv (2^(min (Int.toNat (32:Int)) IntKind.u64.bits))))),(IntKind.u64.wrap (p*y)))

def pD(n:Int):Option Int:=
 if(decide (n<(0:Int)))then
 (some (IntKind.u64.wrap (0-(IntKind.u64.wrap n))))
 else
 (some (IntKind.u64.wrap n))

def m5(u:Int)(below:Bool):Option (Int×Bool):=
 if below then
 (some ((IntKind.i64.wrap (IntKind.u64.wrap (0-u))),decide (u≤(9223372036854775808:Int))))
 else
 (some ((IntKind.i64.wrap u),decide (u≤(9223372036854775807:Int))))

def mq(a1:Int)(b:Int):Option (Int×Bool):=
 (pD a1).bind fun r=>
 (pD b).bind fun r1=>
 (na r r1).bind fun r2=>
 (m5 r2.2 ((decide (a1<(0:Int))) !=(decide (b<(0:Int))))).bind fun r3=>
 some (r3.1,(r3.2&&(r2.1==(0:Int))))

def CA(a1:ac)(b:ac):Option (ac×Int):=
 (rK a1 b mq).bind fun r=>
 some (r.1,r.2)

def mt(a1:Int)(b:Int):Option (Int×Bool):=
  if(b==(0:Int))then
  (some ((0:Int),false))
  else
  ((pD a1).bind fun r=>
  (pD b).bind fun r1=>
  (nz r1).bind fun _=>
  (m5 (IntKind.u64.wrap ((r).tdiv r1)) ((decide (a1<(0:Int))) !=(decide (b<(0:Int))))).bind fun r2=>
  some (r2.1,r2.2))

def CB(a1:ac)(b:ac):Option (ac×Int):=
 (rK a1 b mt).bind fun r=>
 some (r.1,r.2)

def zj(c:Int):Option Bool:=
 some (c==(0:Int))

def ro(a1:ac)(b:ac):Option (ac×Int):=
 (qF a1 b zj).bind fun r=>
 some (r.1,r.2)

def tP(do1:(ac→ac→Option (ac×Int)))(a1:ac)(b:ac):Option (ac×Int):=
  (do1 a1 b).bind fun r=>
  if(r.2 !=(0:Int))then
  (some (r.1,r.2))
  else
  ((qG r.1).bind fun r1=>
  some (r1.1,r1.2))

def Bv(do1:(ac→ac→Option (ac×Int))):Option (ac→ac→Option (ac×Int)):=
 some (tP do1)

def CX(l:(List Int)):Option Int:=
 (cN l (0:Int)).bind fun e=>
 (cN l (1:Int)).bind fun e1=>
 some (min e e1)

def sI(a1:ac)(b:ac):Option (ac×Int):=
 (nR CX ([a1,b])).bind fun r=>
 some (r.1,r.2)

def Ee(l:(List Int)):Option Int:=
 (cN l (0:Int)).bind fun e=>
 (cN l (1:Int)).bind fun e1=>
 some (max e e1)

def u9(a1:ac)(b:ac):Option (ac×Int):=
 (nR Ee ([a1,b])).bind fun r=>
 some (r.1,r.2)

def yM:Option (List (Int×(ac→ac→Option (ac×Int)))):=
 (Da nS).bind fun r=>
 (Al yR).bind fun r1=>
 (Al qG).bind fun r2=>
 (Cq true).bind fun r3=>
 (Cq false).bind fun r4=>
 (Bv ro).bind fun r5=>
 (Bv r).bind fun r6=>
 (Bv nS).bind fun r7=>
 some (dj (dj (dj (dj (dj (dj (dj (dj (dj (dj (dj (dj (dj (dj (dj (dj ([]:List (Int×(ac→ac→Option (ac×Int)))) (4:Int) r1) (5:Int) r2) (6:Int) r3) (7:Int) r4) (12:Int) CC) (13:Int) vB) (14:Int) CA) (15:Int) CB) (16:Int) ro) (17:Int) r5) (18:Int) nS) (20:Int) r) (19:Int) r6) (21:Int) r7) (22:Int) sI) (23:Int) u9)

def fD(s:(List ac)):Option (List ac):=
 (app ([]:List ac) s).bind fun x=>
 some x

def kL(stack:(List ac))(k:Int):Option ((List ac)×(List ac)):=
 (dA stack (IntKind.i64.wrap ((stack.length:Int)-k)) (stack.length:Int)).bind fun y=>
 (fD y).bind fun r=>
 (dA stack 0 (IntKind.i64.wrap ((stack.length:Int)-k))).bind fun y1=>
 some (r,y1)

def gm(bad:Int)(stack:List ac):Option (ac×Int):=
  if(bad !=(0:Int))then
  (some ((⟨(0:Int),(0:Int),(0:Int),[]⟩:ac),bad))
  else
  ((cN stack (0:Int)).bind fun e1=>
  some (e1,(0:Int)))

def dD(do1:(bo→(List ac)→Option (ac×Int))):List bo→Int→(List ac)→Option (ac×Int)
  |[],bad1,stack1=>
    gm bad1 stack1
  |e2::tl,bad1,stack1=>
    (pC e2.Tag).bind fun r=>
    (kL stack1 r).bind fun r1=>
    (do1 e2 r1.1).bind fun r2=>
    if(r2.2 !=(0:Int))then
    (gm r2.2 r1.2)
    else
    ((app r1.2 ([r2.1])).bind fun l2=>
    (dD do1 tl) bad1 l2)

def iD(e:bG)(do1:(bo→(List ac)→Option (ac×Int))):Option (ac×Int):=
 dD do1 e.Nodes (0:Int) ([]:List ac)

def qp(r1:ac×Int)(no:Int):Option (ac×Int):=
 some (r1.1,no)

def iL(r:(List ac))(do1:(List (Int×(ac→ac→Option (ac×Int)))))(n:bo)(l:(List ac)):Option (ac×Int):=
  if(n.Tag==(1:Int))then
  (some (n.Value,(0:Int)))
  else
  (if(n.Tag==(2:Int))then
  ((cN r n.Col).bind fun e=>
  some (e,(0:Int)))
  else
  ((cN l (0:Int)).bind fun e1=>
  (cN l (IntKind.i64.wrap ((l.length:Int)-(1:Int)))).bind fun e2=>
  (((pw do1 n.Tag).getD (fun _ _=>none)) e1 e2).bind fun r1=>
  if((r1.2 !=(0:Int))&&(r1.2 !=(140:Int)))then
  (qp r1 (201:Int))
  else
  (qp r1 r1.2)))

def oJ(e:bG)(r:(List ac)):List Int→ac→Option (ac×Int)
  |[],x=>
    (yM).bind fun r3=>
    (iD e (iL r r3)).bind fun r4=>
    some (r4.1,r4.2)
  |e1::tl,x=>
    (if(!(decide ((r.length:Int)≤e1)))then((cN r e1).bind fun e2=>
    (ml e2).bind fun r5=>
    some (!r5))else some true).bind fun t=>
    if t then
    (some ((⟨(0:Int),(0:Int),(0:Int),[]⟩:ac),(2:Int)))
    else
    ((oJ e r tl) x)

def sS(e:bG)(r:(List ac)):Option (ac×Int):=
  (qY e).bind fun r1=>
  if(r1 !=(0:Int))then
  (some ((⟨(0:Int),(0:Int),(0:Int),[]⟩:ac),r1))
  else
  ((sT e).bind fun r2=>
  oJ e r r2 (⟨(0:Int),(0:Int),(0:Int),[]⟩:ac))

def vU(a1:ac):Option Bool:=
 (pn true).bind fun r=>
 some (decide (a1=r))

def qq(e:bG)(r:(List ac)):Option (Bool×Int):=
 (sS e r).bind fun r1=>
 (vU r1.1).bind fun r2=>
 some (r2,r1.2)

def gR(n:aj)(x:Int×(List ac))(xs:List (List ac))(xs1:List Bool)(x1:Int)(x2:(List (List ac))):Option (Option Nat×(List (List ac)×List Bool×Int×(List (List ac)))):=
  (qq n.Cond x.2).bind fun r3=>
  if(r3.2 !=(0:Int))then
  (some (some 0,(xs,xs1,r3.2,[])))
  else
  (if r3.1 then
  ((cN xs1 x.1).bind fun e2=>
  (some (xs1.set x.1.toNat true)).bind fun st=>
  (app xs ([x.2])).bind fun l2=>
  some (none,(l2,st,x1,x2)))
  else
  (some (none,(xs,xs1,x1,x2))))

def gQ(r:cS)(n:aj)(r1:(Option Nat×(List (List ac)×List Bool×Int×(List (List ac))))×Unit):List (List ac)→Nat→(List (List ac))→Option ((List (List ac))×Int)
  |[],i2,out=>
    some (out,(0:Int))
  |e3::tl,i2,out=>
    (if n.Left then((cN r1.1.2.2.1 (i2:Int)).bind fun e4=>
    some (!e4))else some false).bind fun t=>
    if t then
    ((cN r.width n.B).bind fun e5=>
    (nQ e5 (⟨(0:Int),(0:Int),(0:Int),[]⟩:ac)).bind fun mk1=>
    (dv ([e3,mk1])).bind fun r4=>
    (app out ([r4])).bind fun l7=>
    (gQ r n r1 tl) (i2+1) l7)
    else
    ((gQ r n r1 tl) (i2+1) out)

def jI(r:cS)(n:aj):Option ((List (List ac))×Int):=
  (cN r.rows n.A).bind fun e=>
  (cN r.rows n.B).bind fun e1=>
  if(decide ((40000:Int)<(IntKind.i64.wrap ((e.length:Int)*(e1.length:Int)))))then
  (some ([],(3:Int)))
  else
  ((nQ (e.length:Int) false).bind fun mk=>
  (wu e e1).bind fun it=>
  ((itU it) (Option Nat×(List (List ac)×List Bool×Int×(List (List ac)))) (wP (fun x s=>gR n x s.1 s.2.1 s.2.2.1 s.2.2.2)) (none,(([]:List (List ac)),mk,(0:Int),[]))).bind fun r1=>
  if r1.1.1.isNone then
  (gQ r n r1 e 0 r1.1.2.1)
  else
  (some (r1.1.2.2.2.2,r1.1.2.2.2.1)))

def fT(n:aj):List (List ac)→(List (List ac))→Option ((List (List ac))×Int)
  |[],out=>
    some (out,(0:Int))
  |e1::tl,out=>
    (qq n.Cond e1).bind fun r1=>
    if(r1.2 !=(0:Int))then
    (some ([],r1.2))
    else
    (if r1.1 then
    ((app out ([e1])).bind fun out1=>
    (fT n tl) out1)
    else
    ((fT n tl) out))

def jB(r:cS)(n:aj):Option ((List (List ac))×Int):=
 (cN r.rows n.A).bind fun e=>
 fT n e ([]:List (List ac))

def jx(a1:gS):List (List ac)→(List ac)→Int→Option ((List ac)×Int)
  |[],out,fault=>
    some (out,fault)
  |e::tl,out,fault=>
    (sS a1.Arg e).bind fun r=>
    if(r.2==(140:Int))then
    ((jx a1 tl) out r.2)
    else
    (if(r.2 !=(0:Int))then
    (some ([],(2:Int)))
    else
    (if(r.1.Kind !=(0:Int))then
    ((app out ([r.1])).bind fun out1=>
    (jx a1 tl) out1 fault)
    else
    ((jx a1 tl) out fault)))

def ya(a1:gS)(rows:(List (List ac))):Option ((List ac)×Int):=
 jx a1 rows ([]:List ac) (0:Int)

def mX(v:ac):Option Bool:=
 some (v.Kind !=(2:Int))

def cV(f:(ac→Option Bool)):List ac→Nat→Option Int
 |[],i=>
  some (-1:Int)
 |e::tl,i=>
  (f e).bind fun r=>
  if r then
  (some (i:Int))
  else
  ((cV f tl) (i+1))

def gr(s:(List ac))(f:(ac→Option Bool)):Option Int:=
 cV f s 0

def dV(s:(List ac))(f:(ac→Option Bool)):Option Bool:=
 (gr s f).bind fun r=>
 some (decide ((0:Int)≤r))

def q7(v:ac):Option ac:=
 some (⟨(4:Int),((v.N).fdiv (2^(min (Int.toNat (63:Int)) IntKind.i64.bits))),(IntKind.u64.wrap v.N),[]⟩:ac)

def wy(s:ac)(t:ac):Option (ac×Int):=
 (Lt s.U t.U (0:Int)).bind fun r=>
 (Lt (IntKind.u64.wrap s.N) (IntKind.u64.wrap t.N) r.2).bind fun r1=>
 if(decide ((fc .and .i64 (fc .xor .i64 s.N (IntKind.i64.wrap r1.1)) (fc .xor .i64 t.N (IntKind.i64.wrap r1.1)))<(0:Int)))then
 (some ((⟨(0:Int),(0:Int),(0:Int),[]⟩:ac),(140:Int)))
 else
 (some ((⟨(4:Int),(IntKind.i64.wrap r1.1),r.1,[]⟩:ac),(0:Int)))

def sU(s:ac)(v:ac):Option (ac×Int):=
  (pO (4:Int) ([s])).bind fun r=>
  (pO (2:Int) ([v])).bind fun r1=>
  if((r==(120:Int))||(r1==(120:Int)))then
  (some ((⟨(0:Int),(0:Int),(0:Int),[]⟩:ac),(120:Int)))
  else
  (if((r !=(0:Int))||(r1 !=(0:Int)))then
  (some ((⟨(0:Int),(0:Int),(0:Int),[]⟩:ac),(2:Int)))
  else
  (if(v.Kind==(0:Int))then
  (some (s,(0:Int)))
  else
  (if(s.Kind==(0:Int))then
  ((q7 v).bind fun r2=>
  some (r2,(0:Int)))
  else
  ((q7 v).bind fun r3=>
  (wy s r3).bind fun r4=>
  some (r4.1,r4.2)))))

def yS(s:ac):Option (ac×Int):=
  (pO (4:Int) ([s])).bind fun r=>
  if(r !=(0:Int))then
  (some ((⟨(0:Int),(0:Int),(0:Int),[]⟩:ac),r))
  else
  (if(s.Kind==(0:Int))then
  (some (s,(0:Int)))
  else
  ((oC (IntKind.i64.wrap s.U)).bind fun r1=>
  (q7 r1).bind fun r2=>
  if(decide (r2=s))then
  (some (r1,(0:Int)))
  else
  (some ((⟨(0:Int),(0:Int),(0:Int),[]⟩:ac),(140:Int)))))

def m6:List ac→ac→ac→Option (ac×Int)
 |[],x,s=>
  (yS s).bind fun r1=>
  some (r1.1,r1.2)
 |e::tl,x,s=>
  (sU s e).bind fun r2=>
  if(r2.2 !=(0:Int))then
  (some (r2.1,r2.2))
  else
  ((m6 tl) x r2.1)

def yT(l:(List ac)):Option (ac×Int):=
  if(decide ((1048576:Int)<(l.length:Int)))then
  (some ((⟨(0:Int),(0:Int),(0:Int),[]⟩:ac),(3:Int)))
  else
  ((pm).bind fun r=>
  m6 l (⟨(0:Int),(0:Int),(0:Int),[]⟩:ac) r)

def cF(cmp:(ac→ac→Option Int)):List ac→ac→Option ac
 |[],m=>
  some m
 |e1::tl,m=>
  (cmp e1 m).bind fun r=>
  if(decide (r<(0:Int)))then
  ((cF cmp tl) e1)
  else
  ((cF cmp tl) m)

def ga(p:(List ac))(cmp:(ac→ac→Option Int)):Option ac:=
 (cN p (0:Int)).bind fun e=>
 cF cmp (p.drop (1)) e

def eN(p:(List ac))(cmp:(ac→ac→Option Int)):Option ac:=
 if(decide ((p.length:Int)<(1:Int)))then
 (none)
 else
 (ga p cmp)

def rp(v:ac):Option Bool:=
 (k6 v).bind fun r=>
 some (r !=(0:Int))

def cH(f:(ac→Option Bool)):List ac→Nat→Option Int
 |[],i=>
  some (-1:Int)
 |e::tl,i=>
  (f e).bind fun r=>
  if r then
  (some (i:Int))
  else
  ((cH f tl) (i+1))

def kC(s:(List ac))(f:(ac→Option Bool)):Option Int:=
 cH f s 0

def gc(s:(List ac))(f:(ac→Option Bool)):Option Bool:=
 (kC s f).bind fun r=>
 some (decide ((0:Int)≤r))

def sK(r:(List ac)):Option Bool:=
  (if(decide ((r.length:Int)≤(16:Int)))then((gc r rp).bind fun r1=>
  some (!r1))else some false).bind fun t=>
  some t

def bH(s1:(List ac))(s2:(List ac))(cmp:(ac→ac→Option Int)):List ac→Nat→Option Int
  |[],i=>
    if(decide ((s1.length:Int)<(s2.length:Int)))then
    (some (-1:Int))
    else
    (some (0:Int))
  |e::tl,i=>
    if(decide ((s2.length:Int)≤(i:Int)))then
    (some (1:Int))
    else
    ((cN s2 (i:Int)).bind fun e1=>
    (cmp e e1).bind fun r=>
    if(r !=(0:Int))then
    (some r)
    else
    ((bH s1 s2 cmp tl) (i+1)))

def cr(s1:(List ac))(s2:(List ac))(cmp:(ac→ac→Option Int)):Option Int:=
 bH s1 s2 cmp s1 0

def oL(p:Int):Option Bool:=
 some (p !=p)

def mZ(p:Int)(y:Int):Option Int:=
  (oL p).bind fun r=>
  (oL y).bind fun r1=>
  if r then
  (if r1 then
  (some (0:Int))
  else
  (some (-1:Int)))
  else
  (if r1 then
  (some (1:Int))
  else
  (if(decide (p<y))then
  (some (-1:Int))
  else
  (if(decide (y<p))then
  (some (1:Int))
  else
  (some (0:Int)))))

def oM(p:xb):Option Bool:=
 some (!(p==p))

def m4(p:xb)(y:xb):Option Int:=
  (oM p).bind fun r=>
  (oM y).bind fun r1=>
  if r then
  (if r1 then
  (some (0:Int))
  else
  (some (-1:Int)))
  else
  (if r1 then
  (some (1:Int))
  else
  (if(Op.bytesLess p y)then
  (some (-1:Int))
  else
  (if(!(Op.bytesLess p y||p==y))then
  (some (1:Int))
  else
  (some (0:Int)))))

def pq(a1:ac)(b:ac):Option Int:=
 (iM a1.Kind b.Kind).bind fun r=>
 (gD a1.N b.N).bind fun r1=>
 (mZ a1.U b.U).bind fun r2=>
 (m4 a1.S b.S).bind fun r3=>
 (mY ([r,r1,r2,r3])).bind fun r4=>
 some r4

def pI(a1:(List ac))(b:(List ac)):Option Int:=
 (cr a1 b pq).bind fun r=>
 some r

def pJ(a1:(List ac))(b:(List ac)):Option Int:=
  (sK a1).bind fun r=>
  (if(!(!r))then((sK b).bind fun r1=>
  some (!r1))else some true).bind fun t=>
  if t then
  (some (0:Int))
  else
  ((pI a1 b).bind fun r2=>
  some r2)

def ik(a1:ac)(b:ac):Option Int:=
 (pJ ([a1]) ([b])).bind fun r=>
 some r

def cG(cmp:(ac→ac→Option Int)):List ac→ac→Option ac
 |[],m=>
  some m
 |e1::tl,m=>
  (cmp e1 m).bind fun r=>
  if(decide ((0:Int)<r))then
  ((cG cmp tl) e1)
  else
  ((cG cmp tl) m)

def gb(p:(List ac))(cmp:(ac→ac→Option Int)):Option ac:=
 (cN p (0:Int)).bind fun e=>
 cG cmp (p.drop (1)) e

def eO(p:(List ac))(cmp:(ac→ac→Option Int)):Option ac:=
 if(decide ((p.length:Int)<(1:Int)))then
 (none)
 else
 (gb p cmp)

def mh(a1:gS)(rows:(List (List ac))):Option (ac×Int):=
  if(a1.Tag==(1:Int))then
  ((oC (rows.length:Int)).bind fun r=>
  some (r,(0:Int)))
  else
  ((ya a1 rows).bind fun r1=>
  if(r1.2==(2:Int))then
  (some ((⟨(0:Int),(0:Int),(0:Int),[]⟩:ac),r1.2))
  else
  ((if(a1.Tag==(3:Int))then((dV r1.1 mX).bind fun r2=>
  some r2)else some false).bind fun t=>
  if t then
  (some ((⟨(0:Int),(0:Int),(0:Int),[]⟩:ac),(2:Int)))
  else
  (if(r1.2 !=(0:Int))then
  (some ((⟨(0:Int),(0:Int),(0:Int),[]⟩:ac),r1.2))
  else
  (if(a1.Tag==(2:Int))then
  ((oC (r1.1.length:Int)).bind fun r3=>
  some (r3,(0:Int)))
  else
  (if(a1.Tag==(3:Int))then
  ((yT r1.1).bind fun r4=>
  some (r4.1,r4.2))
  else
  (if((r1.1.length:Int)==(0:Int))then
  (some ((⟨(0:Int),(0:Int),(0:Int),[]⟩:ac),(0:Int)))
  else
  (if(a1.Tag==(4:Int))then
  ((eN r1.1 ik).bind fun r5=>
  some (r5,(0:Int)))
  else
  ((eO r1.1 ik).bind fun r6=>
  some (r6,(0:Int))))))))))

def p8(nx:Int→Option Int)(e:(List (List ac)))(n:Int):List (List ac)→Option Int
 |[]=>
  nx (max n (e.length:Int))
 |e1::tl1=>
  (sK e1).bind fun r=>
  if(!r)then
  (some (150:Int))
  else
  ((p8 nx e n tl1))

def lg:List (List (List ac))→Int→Option Int
 |[],n=>
  if(decide ((8000:Int)<n))then
  (some (3:Int))
  else
  (some (0:Int))
 |e::tl,n=>
  p8 (lg tl) e n e

def sL(l:(List (List (List ac)))):Option Int:=
 lg l (0:Int)

def ul(c:Int):Option Bool:=
 some (decide (c<(0:Int)))

def yr(r:(List ac))(c:Int):Option Bool:=
 some ((decide (c<(0:Int)))||(decide ((r.length:Int)≤c)))

def Dz(r:(List ac))(columns:(List Int)):Option Bool:=
  (if(decide ((columns.length:Int)≤(16:Int)))then((cB columns (yr r)).bind fun r1=>
  some (!r1))else some false).bind fun t=>
  some t

def p9(columns:(List Int)):List (List ac)→Option Int
 |[]=>
  some (0:Int)
 |e::tl=>
  (Dz e columns).bind fun r2=>
  if(!r2)then
  (some (2:Int))
  else
  ((p9 columns tl))

def yu(l:(List (List ac)))(columns:(List Int)):Option Int:=
  (sL ([l])).bind fun r=>
  if(r !=(0:Int))then
  (some r)
  else
  ((if(!(decide ((16:Int)<(columns.length:Int))))then((cB columns ul).bind fun r1=>
  some r1)else some true).bind fun t=>
  if t then
  (some (2:Int))
  else
  (p9 columns l))

def cz(s:(List ac)):Option (List ac):=
 (app ([]:List ac) s).bind fun x=>
 some x

def nq:List (List ac)→(List (List ac))→Option (List (List ac))
 |[],out=>
  some out
 |e::tl,out=>
  (cz e).bind fun r=>
  (app out ([r])).bind fun out1=>
  (nq tl) out1

def tf(l:(List (List ac))):Option (List (List ac)):=
 nq l ([]:List (List ac))

def mn(r:(List ac)):List Int→(List ac)→Option (List ac)
 |[],out=>
  some out
 |e::tl,out=>
  (cN r e).bind fun e1=>
  (app out ([e1])).bind fun out1=>
  (mn r tl) out1

def nX(r:(List ac))(columns:(List Int)):Option (List ac):=
 mn r columns ([]:List ac)

def mF(columns:(List Int))(a1:(List ac))(b:(List ac)):Option Int:=
 (nX a1 columns).bind fun r=>
 (nX b columns).bind fun r1=>
 (pI r r1).bind fun r2=>
 (pI a1 b).bind fun r3=>
 (mY ([r2,r3])).bind fun r4=>
 some r4

def dU(s2:(List ac)):List ac→Nat→Option Bool
 |[],i=>
  some true
 |e::tl,i=>
  (cN s2 (i:Int)).bind fun e1=>
  if(!decide (e=e1))then
  (some false)
  else
  ((dU s2 tl) (i+1))

def i7(s1:(List ac))(s2:(List ac)):Option Bool:=
 if((s1.length:Int) !=(s2.length:Int))then
 (some false)
 else
 (dU s2 s1 0)

def np(a1:(List ac))(b:(List ac)):Option Bool:=
 (i7 a1 b).bind fun r=>
 some r

def ge(columns:(List Int))(a1:(List ac))(b:(List ac)):Option Bool:=
 (nX a1 columns).bind fun r=>
 (nX b columns).bind fun r1=>
 (np r r1).bind fun r2=>
 some r2

def nm{Sg:Type}(alike:((List ac)→(List ac)→Option Bool))(yld:(List (List ac))→Sg→Option (Bool×Sg))(nx:Sg→(List (List ac))→Option Sg)(s1:Sg)(x:(List (List ac))):Nat→Int→Option Sg
  |0,_=>none
  |n2+1,n1=>
    (if(decide (n1<(x.length:Int)))then((cN x (0:Int)).bind fun e2=>
    (cN x n1).bind fun e3=>
    (alike e2 e3).bind fun r=>
    some r)else some false).bind fun t=>
    if t then
    ((nm alike yld nx s1 x n2) (IntKind.i64.wrap (n1+(1:Int))))
    else
    ((dA x 0 n1).bind fun y=>
    (yld (y) s1).bind fun r1=>
    if(!r1.1)then
    (some r1.2)
    else
    ((dA x n1 (x.length:Int)).bind fun y1=>
    nx r1.2 y1))

def j9{Sg:Type}(alike:((List ac)→(List ac)→Option Bool))(yld:(List (List ac))→Sg→Option (Bool×Sg)):Nat→Sg→(List (List ac))→Option Sg
 |0,_,_=>none
 |n+1,s1,x=>
  if(decide ((0:Int)<(x.length:Int)))then
  (nm alike yld (j9 alike yld n) s1 x iz (1:Int))
  else
  (some s1)

def wb{Sg:Type}(l:(List (List ac)))(alike:((List ac)→(List ac)→Option Bool))(yld:(List (List ac))→Sg→Option (Bool×Sg))(s:Sg):Option Sg:=
 j9 alike yld iz s l

def EH(l:(List (List ac)))(alike:((List ac)→(List ac)→Option Bool)):Option (It (List (List ac))):=
 some (fun _=>wb l alike)

def eY(s:(List (List ac))):Option (List (List ac)):=
 (app ([]:List (List ac)) s).bind fun x=>
 some x

def ke(columns:(List Int))(x:(List (List ac)))(xs:List ie):Option (List ie):=
 (cN x (0:Int)).bind fun e=>
 (nX e columns).bind fun r2=>
 (eY x).bind fun r3=>
 (app xs ([(⟨r2,r3⟩:ie)])).bind fun l3=>
 some l3

def th(l:(List (List ac)))(columns:(List Int)):Option ((List ie)×Int):=
  (yu l columns).bind fun r=>
  if(r !=(0:Int))then
  (some ([],r))
  else
  ((tf l).bind fun r1=>
  (zp (fun(x:(List ac)×(List ac))=>(mF columns) x.1 x.2) r1).bind fun uP=>
  (EH uP (ge columns)).bind fun it=>
  (it (List ie) (Dh (fun x s=>ke columns x s)) ([]:List ie)).bind fun xs1=>
  some (xs1,(0:Int)))

def iE(nx:(List (List ac))→Option ((List (List ac))×Int))(e1:ie)(out:List (List ac)):List gS→(List ac)→Option ((List (List ac))×Int)
  |[],x=>
    (app out ([x])).bind fun out1=>
    nx out1
  |e2::tl1,x=>
    (mh e2 e1.Rows).bind fun r3=>
    if(r3.2 !=(0:Int))then
    (some ([],r3.2))
    else
    ((app x ([r3.1])).bind fun x1=>
    (iE nx e1 out tl1) x1)

def fi(n:aj):List ie→(List (List ac))→Option ((List (List ac))×Int)
 |[],out=>
  some (out,(0:Int))
 |e1::tl,out=>
  (cz e1.Key).bind fun r2=>
  iE (fi n tl) e1 out n.Aggs r2

def lJ(n:aj)(groups:(List ie)):Option ((List (List ac))×Int):=
 fi n groups ([]:List (List ac))

def jd(r:cS)(n:aj):Option ((List (List ac))×Int):=
  (cN r.rows n.A).bind fun e=>
  (th e n.Keys).bind fun r1=>
  if(r1.2 !=(0:Int))then
  (some ([],r1.2))
  else
  (if(((n.Keys.length:Int)==(0:Int))&&((r1.1.length:Int)==(0:Int)))then
  (lJ n ([(⟨[],[]⟩:ie)]))
  else
  (lJ n r1.1))

def gH(nx:(List (List ac))→Option ((List (List ac))×Int))(e1:(List ac))(out:List (List ac)):List bG→(List ac)→Option ((List (List ac))×Int)
  |[],y=>
    (app out ([y])).bind fun out1=>
    nx out1
  |e2::tl1,y=>
    (sS e2 e1).bind fun r1=>
    if(r1.2 !=(0:Int))then
    (some ([],r1.2))
    else
    ((app y ([r1.1])).bind fun y1=>
    (gH nx e1 out tl1) y1)

def fx(n:aj):List (List ac)→(List (List ac))→Option ((List (List ac))×Int)
 |[],out=>
  some (out,(0:Int))
 |e1::tl,out=>
  gH (fx n tl) e1 out n.Items ([]:List ac)

def jb(r:cS)(n:aj):Option ((List (List ac))×Int):=
 (cN r.rows n.A).bind fun e=>
 fx n e ([]:List (List ac))

def te(l:(List (List ac))):Option (List (List ac)):=
 (tf l).bind fun r=>
 (zp (fun(x:(List ac)×(List ac))=>pI x.1 x.2) r).bind fun uP=>
 some uP

def ci(eq:((List ac)→(List ac)→Option Bool))(i:Nat)(y:List (List ac)):Nat→Nat→(List (List ac))→Int→Option (List (List ac))
  |0,i1,s1,k=>
    (dA s1 k (s1.length:Int)).bind fun y1=>
    (some (s1.take k.toNat++List.replicate y1.length ([]))).bind fun cl=>
    (dA cl 0 k).bind fun y2=>
    some y2
  |k2+1,i1,s1,k=>
    (xT s1 (i:Int) y.length (i1:Int)).bind fun e3=>
    (xT s1 (i:Int) y.length (IntKind.i64.wrap ((i1:Int)-(1:Int)))).bind fun e4=>
    (eq e3 e4).bind fun r1=>
    if(!r1)then
    ((xT s1 (i:Int) y.length (i1:Int)).bind fun e5=>
    (cN s1 k).bind fun e6=>
    (some (s1.set k.toNat e5)).bind fun st=>
    (ci eq i y k2) (i1+1) st (IntKind.i64.wrap (k+(1:Int))))
    else
    ((ci eq i y k2) (i1+1) s1 k)

def cI(s:(List (List ac)))(eq:((List ac)→(List ac)→Option Bool)):List (List ac)→Nat→Option (List (List ac))
  |[],i=>
    some s
  |e::tl,i=>
    (cN s (IntKind.i64.wrap ((i:Int)-(1:Int)))).bind fun e1=>
    (eq e e1).bind fun r=>
    if r then
    ((dA s (i:Int) (s.length:Int)).bind fun y=>
    ci eq i y (y.length-1) 1 s (i:Int))
    else
    ((cI s eq tl) (i+1))

def eS(s:(List (List ac)))(eq:((List ac)→(List ac)→Option Bool)):Option (List (List ac)):=
 if(decide ((s.length:Int)<(2:Int)))then
 (some s)
 else
 (cI s eq (s.drop (1)) 1)

def su(l:(List (List ac))):Option ((List (List ac))×Int):=
  (sL ([l])).bind fun r=>
  if(r !=(0:Int))then
  (some ([],r))
  else
  ((te l).bind fun r1=>
  (eS r1 np).bind fun r2=>
  some (r2,(0:Int)))

def iF(r:cS)(n:aj):Option ((List (List ac))×Int):=
 (cN r.rows n.A).bind fun e=>
 (su e).bind fun r1=>
 some (r1.1,r1.2)

def iZ(s:List (List ac)):Option (List (List ac)):=
 some s

def i6(n:Int):Option (List (List ac)):=
  if(decide ((0:Int)<(IntKind.i64.wrap (n-(IntKind.i64.wrap ((0:Int)-(0:Int)))))))then
  ((WG (IntKind.i64.wrap (n-(IntKind.i64.wrap ((0:Int)-(0:Int)))))).bind fun _=>
  (nQ (IntKind.i64.wrap (n-(IntKind.i64.wrap ((0:Int)-(0:Int))))) ([])).bind fun mk=>
  (dA mk 0 (0:Int)).bind fun y=>
  iZ y)
  else
  (iZ ([]:List (List ac)))

def hX(n:Int):Option (List (List ac)):=
 if(decide (n<(0:Int)))then
 (none)
 else
 (i6 n)

def fz:List (List (List ac))→(List (List ac))→Option (List (List ac))
 |[],newslice=>
  some newslice
 |e1::tl1,newslice=>
  (app newslice e1).bind fun newslice1=>
  (fz tl1) newslice1

def fC(slices:(List (List (List ac)))):List (List (List ac))→Int→Option (List (List ac))
 |[],size=>
  (hX size).bind fun r=>
  fz slices r
 |e::tl,size=>
  if(decide ((IntKind.i64.wrap (size+(e.length:Int)))<(0:Int)))then
  (none)
  else
  ((fC slices tl) (IntKind.i64.wrap (size+(e.length:Int))))

def dR(slices:(List (List (List ac)))):Option (List (List ac)):=
 fC slices slices (0:Int)

def ko(r:cS)(n:aj):Option ((List (List ac))×Int):=
 (cN r.rows n.A).bind fun e=>
 (cN r.rows n.B).bind fun e1=>
 (dR ([e,e1])).bind fun r1=>
 some (r1,(0:Int))

def ot(nx:Option Int)(n:Int):Option Int:=
 if(n !=(0:Int))then
 (some n)
 else
 (nx)

def jw(a1:(List ac))(b:(List ac)):List gG→Option Int
 |[]=>
  (pJ a1 b).bind fun r=>
  some r
 |e::tl=>
  (cN a1 e.Col).bind fun e1=>
  (cN b e.Col).bind fun e2=>
  (ik e1 e2).bind fun r1=>
  if e.Desc then
  (ot (jw a1 b tl) (IntKind.i64.wrap (0-r1)))
  else
  (ot (jw a1 b tl) r1)

def ou(order:(List gG))(a1:(List ac))(b:(List ac)):Option Int:=
 jw a1 b order

def Cu(order:(List gG)):Option ((List ac)→(List ac)→Option Int):=
 some (ou order)

def oK(out1:List (List ac)):Option (List (List ac)):=
 some out1

def km(order:(List gG))(limit:Int):List (List ac)→(List (List ac))→Option (List (List ac))
  |[],out=>
    (Cu order).bind fun r=>
    (zp (fun(x:(List ac)×(List ac))=>r x.1 x.2) out).bind fun uP=>
    if((decide ((0:Int)≤limit))&&(decide (limit<(uP.length:Int))))then
    ((dA uP 0 limit).bind fun y=>
    oK y)
    else
    (oK uP)
  |e::tl,out=>
    (cz e).bind fun r1=>
    (app out ([r1])).bind fun out2=>
    (km order limit tl) out2

def o6(rows:(List (List ac)))(order:(List gG))(limit:Int):Option (List (List ac)):=
 km order limit rows ([]:List (List ac))

def kp(r:cS)(n:aj):Option ((List (List ac))×Int):=
 (cN r.rows n.A).bind fun e=>
 (o6 e n.Order n.Limit).bind fun r1=>
 some (r1,(0:Int))

def tg(l:(List (List ac))):Option ((List (List ac))×Int):=
  (sL ([l])).bind fun r=>
  if(r !=(0:Int))then
  (some ([],r))
  else
  ((te l).bind fun r1=>
  some (r1,(0:Int)))

def d3(s:(List gG)):Option (List gG):=
 (app ([]:List gG) s).bind fun x=>
 some x

def cn(s:(List bo)):Option (List bo):=
 (app ([]:List bo) s).bind fun x=>
 some x

def eZ(s:(List gS)):Option (List gS):=
 (app ([]:List gS) s).bind fun x=>
 some x

def ee(s:(List bG)):Option (List bG):=
 (app ([]:List bG) s).bind fun x=>
 some x

def nc:List bG→Nat→aj→Option aj
 |[],i1,n4=>
  some n4
 |e1::tl1,i1,n4=>
  (cN n4.Items (i1:Int)).bind fun e2=>
  (cn e2.Nodes).bind fun r6=>
  (some (n4.Items.set (i1:Int).toNat ({e2 with Nodes:=r6}:bG))).bind fun st=>
  (nc tl1) (i1+1) ({n4 with Items:=st}:aj)

def nd:List gS→Nat→aj→Option aj
 |[],i,n3=>
  nc n3.Items 0 n3
 |e::tl,i,n3=>
  (cN n3.Aggs (i:Int)).bind fun e3=>
  (cn e3.Arg.Nodes).bind fun r7=>
  (some (n3.Aggs.set (i:Int).toNat ({e3 with Arg:=({e3.Arg with Nodes:=r7}:bG)}:gS))).bind fun st1=>
  (nd tl) (i+1) ({n3 with Aggs:=st1}:aj)

def ne(n2:aj):Option aj:=
 (cy n2.Kinds).bind fun r=>
 (cy n2.Keys).bind fun r1=>
 (d3 n2.Order).bind fun r2=>
 (cn (((aj.mk n2.Op n2.A n2.B n2.Table r n2.Left n2.Cond r1 n2.Aggs n2.Items r2 n2.Limit).Cond).Nodes)).bind fun r3=>
 (eZ (({(aj.mk n2.Op n2.A n2.B n2.Table r n2.Left n2.Cond r1 n2.Aggs n2.Items r2 n2.Limit)with Cond:=({(aj.mk n2.Op n2.A n2.B n2.Table r n2.Left n2.Cond r1 n2.Aggs n2.Items r2 n2.Limit).Cond with Nodes:=r3}:bG)}:aj).Aggs)).bind fun r4=>
 (ee (({(aj.mk n2.Op n2.A n2.B n2.Table r n2.Left n2.Cond r1 n2.Aggs n2.Items r2 n2.Limit)with Cond:=({(aj.mk n2.Op n2.A n2.B n2.Table r n2.Left n2.Cond r1 n2.Aggs n2.Items r2 n2.Limit).Cond with Nodes:=r3}:bG)}:aj).Items)).bind fun r5=>
 nd r4 0 ({({({(aj.mk n2.Op n2.A n2.B n2.Table r n2.Left n2.Cond r1 n2.Aggs n2.Items r2 n2.Limit)with Cond:=({(aj.mk n2.Op n2.A n2.B n2.Table r n2.Left n2.Cond r1 n2.Aggs n2.Items r2 n2.Limit).Cond with Nodes:=r3}:bG)}:aj)with Aggs:=r4}:aj)with Items:=r5}:aj)

def pg(by1:Int)(n1:aj):Option aj:=
 if(decide ((0:Int)≤n1.B))then
 (ne (aj.mk n1.Op n1.A (IntKind.i64.wrap (n1.B+by1)) n1.Table n1.Kinds n1.Left n1.Cond n1.Keys n1.Aggs n1.Items n1.Order n1.Limit))
 else
 (ne n1)

def oG(n:aj)(by1:Int):Option aj:=
 if(decide ((0:Int)≤n.A))then
 (pg by1 (aj.mk n.Op (IntKind.i64.wrap (n.A+by1)) n.B n.Table n.Kinds n.Left n.Cond n.Keys n.Aggs n.Items n.Order n.Limit))
 else
 (pg by1 n)

def nv(l:bc)(place:Int)(e:Int):Nat→Int→bc→Option (bc×Int)
  |0,_,_=>none
  |n+1,i,out=>
    if(decide (i≤place))then
    ((cN l.Nodes i).bind fun e1=>
    (oG e1 (IntKind.i64.wrap (0-e))).bind fun r1=>
    (app out.Nodes ([r1])).bind fun l2=>
    (nv l place e n) (IntKind.i64.wrap (i+(1:Int))) ({out with Nodes:=l2}:bc))
    else
    (some (out,(0:Int)))

def tF(l:bc)(place:Int):Option (bc×Int):=
  (px l).bind fun r=>
  if(!r.2.2)then
  (some ((⟨[]⟩:bc),(230:Int)))
  else
  (if((decide (place<(0:Int)))||(decide ((l.Nodes.length:Int)≤place)))then
  (some ((⟨[]⟩:bc),(2:Int)))
  else
  ((cN r.1.first place).bind fun e=>
  nv l place e iz e ({(⟨[]⟩:bc)with Nodes:=([]:List aj)}:bc)))

def ov(l:bc)(nx:Nat→cS→Option ((List (List ac))×Int))(i:Nat)(r2:((List (List ac))×Int)×cS)(rows:(List (List ac))):Option ((List (List ac))×Int):=
 (tF l (i:Int)).bind fun r3=>
 (rE r3.1).bind fun r4=>
 (app r2.2.rows ([rows])).bind fun l3=>
 (app r2.2.width ([(r4.1.length:Int)])).bind fun l4=>
 nx (i+1) ({({r2.2 with rows:=l3}:cS)with width:=l4}:cS)

def ow(l:bc)(nx:Nat→cS→Option ((List (List ac))×Int))(i:Nat)(e:aj)(r2:((List (List ac))×Int)×cS)(e2:Int):Option ((List (List ac))×Int):=
  if(e2 !=(0:Int))then
  (some ([],e2))
  else
  (if(e.Op !=(8:Int))then
  ((tg r2.1.1).bind fun r5=>
  ov l nx i r2 r5.1)
  else
  (ov l nx i r2 r2.1.1))

def fU(l:bc):List aj→Nat→cS→Option ((List (List ac))×Int)
 |[],i,ob=>
  (cN ob.rows (IntKind.i64.wrap ((ob.rows.length:Int)-(1:Int)))).bind fun e1=>
  some (e1,(0:Int))
 |e::tl,i,ob=>
  (((pw (dj (dj (dj (dj (dj (dj (dj (dj ([]:List (Int×(cS→aj→Option (((List (List ac))×Int)×cS)))) (1:Int) (fun(mc:cS) (mx:aj)=>(kU mc mx).map fun mr=>(mr,mc))) (2:Int) (fun(mc:cS) (mx:aj)=>(jI mc mx).map fun mr=>(mr,mc))) (3:Int) (fun(mc:cS) (mx:aj)=>(jB mc mx).map fun mr=>(mr,mc))) (4:Int) (fun(mc:cS) (mx:aj)=>(jd mc mx).map fun mr=>(mr,mc))) (5:Int) (fun(mc:cS) (mx:aj)=>(jb mc mx).map fun mr=>(mr,mc))) (6:Int) (fun(mc:cS) (mx:aj)=>(iF mc mx).map fun mr=>(mr,mc))) (7:Int) (fun(mc:cS) (mx:aj)=>(ko mc mx).map fun mr=>(mr,mc))) (8:Int) (fun(mc:cS) (mx:aj)=>(kp mc mx).map fun mr=>(mr,mc))) e.Op).getD (fun _ _=>none)) ob (e)).bind fun r2=>
  if((r2.1.2==(0:Int))&&(decide ((8000:Int)<(r2.1.1.length:Int))))then
  (ow l (fU l tl) i e r2 (3:Int))
  else
  (ow l (fU l tl) i e r2 r2.1.2)

def hJ(l:bc)(b:dx):Option ((List (List ac))×Int):=
  (mp l).bind fun r=>
  if(r.2 !=(0:Int))then
  (some ([],r.2))
  else
  ((uH l b).bind fun r1=>
  if(!r1)then
  (some ([],(250:Int)))
  else
  (fU l l.Nodes 0 (⟨b,[],[]⟩:cS)))

def Fb:Option aj:=
 some (⟨(1:Int),(-1:Int),(-1:Int),(0:Int),[(2:Int)],false,(⟨[]⟩:bG),[],[],[],[],(0:Int)⟩:aj)

def G9(k:Int):Option bG:=
 some (⟨[(⟨(2:Int),(-1:Int),(-1:Int),k,(⟨(0:Int),(0:Int),(0:Int),[]⟩:ac)⟩:bo)]⟩:bG)

def ID(k:Int):Option (List ac):=
 some ([(⟨(2:Int),k,(0:Int),[]⟩:ac)])

def C5:Option dx:=
 (ID (1:Int)).bind fun r=>
 (ID (2:Int)).bind fun r1=>
 some (⟨[[r,r1,[(⟨(0:Int),(0:Int),(0:Int),[]⟩:ac)]]]⟩:dx)

def uw:Option Bool:=
  (Fb).bind fun r=>
  (G9 (0:Int)).bind fun r1=>
  (C5).bind fun r2=>
  (hJ (⟨[r,(⟨(4:Int),(0:Int),(-1:Int),(0:Int),[],false,(⟨[]⟩:bG),[],[(⟨(1:Int),(⟨[]⟩:bG)⟩:gS),(⟨(3:Int),r1⟩:gS)],[],[],(0:Int)⟩:aj)]⟩:bc) r2).bind fun r3=>
  (if((r3.2==(0:Int))&&((r3.1.length:Int)==(1:Int)))then((cN r3.1 (0:Int)).bind fun e=>
  some ((e.length:Int)==(2:Int)))else some false).bind fun t=>
  (if t then((cN r3.1 (0:Int)).bind fun e1=>
  (cN e1 (0:Int)).bind fun e2=>
  some (e2.N==(3:Int)))else some false).bind fun t1=>
  (if t1 then((cN r3.1 (0:Int)).bind fun e3=>
  (cN e3 (1:Int)).bind fun e4=>
  some (e4.N==(3:Int)))else some false).bind fun t2=>
  some t2

def lk(nx:Option Bool):List ac→Option Bool
 |[]=>
  nx
 |e1::tl1=>
  if(decide ((200:Int)<(e1.S.length:Int)))then
  (some true)
  else
  ((lk nx tl1))

def iu:List (List ac)→Option Bool
 |[]=>
  some false
 |e::tl=>
  if(decide ((30:Int)<(e.length:Int)))then
  (some true)
  else
  (lk (iu tl) e)

def qh(l:(List (List ac)))(most:Int):Option Bool:=
 if(decide (most<(l.length:Int)))then
 (some true)
 else
 (iu l)

def lq:List (List (List ac))→Option Bool
 |[]=>
  some false
 |e::tl=>
  (qh e (30:Int)).bind fun r=>
  if r then
  (some true)
  else
  ((lq tl))

def qi(b:dx):Option Bool:=
 if(decide ((10:Int)<(b.Tables.length:Int)))then
 (some true)
 else
 (lq b.Tables)

def ln:List bo→Option Bool
 |[]=>
  some false
 |e1::tl=>
  if(decide ((200:Int)<(e1.Value.S.length:Int)))then
  (some true)
  else
  ((ln tl))

def lV(e:bG):Option Bool:=
 if(decide ((100:Int)<(e.Nodes.length:Int)))then
 (some true)
 else
 (ln e.Nodes)

def nw(b:dx)(nx:Int→Option Bool)(e:aj)(rows:Int):List gS→Option Bool
  |[]=>
    if(((e.Op==(1:Int))&&(decide ((0:Int)≤e.Table)))&&(decide (e.Table<(b.Tables.length:Int))))then
    ((cN b.Tables e.Table).bind fun e3=>
    nx (IntKind.i64.wrap (rows*(IntKind.i64.wrap ((e3.length:Int)+(1:Int))))))
    else
    (nx rows)
  |e2::tl2=>
    (lV e2.Arg).bind fun r1=>
    if r1 then
    (some true)
    else
    ((nw b nx e rows tl2))

def ny(b:dx)(nx:Int→Option Bool)(e:aj)(rows:Int):List bG→Option Bool
 |[]=>
  nw b nx e rows e.Aggs
 |e1::tl1=>
  (lV e1).bind fun r2=>
  if r2 then
  (some true)
  else
  ((ny b nx e rows tl1))

def kg(b:dx):List aj→Int→Option Bool
  |[],rows=>
    some (decide ((3000:Int)<rows))
  |e::tl,rows=>
    (if(!(((((decide ((20:Int)<(e.Kinds.length:Int)))||(decide ((20:Int)<(e.Keys.length:Int))))||(decide ((20:Int)<(e.Order.length:Int))))||(decide ((20:Int)<(e.Items.length:Int))))||(decide ((20:Int)<(e.Aggs.length:Int)))))then((lV e.Cond).bind fun r=>
    some r)else some true).bind fun t=>
    if t then
    (some true)
    else
    (ny b (kg b tl) e rows e.Items)

def wl(l:bc)(b:dx):Option Bool:=
 if(decide ((30:Int)<(l.Nodes.length:Int)))then
 (some true)
 else
 (kg b l.Nodes (1:Int))

def dF(v:ac):Option Bool:=
  if(v.Kind==(0:Int))then
  (some (decide (v=(⟨(0:Int),(0:Int),(0:Int),[]⟩:ac))))
  else
  (if(v.Kind==(1:Int))then
  (some (((v.U==(0:Int))&&(v.S==([])))&&((v.N==(0:Int))||(v.N==(1:Int)))))
  else
  (if(v.Kind==(2:Int))then
  (some ((v.U==(0:Int))&&(v.S==([]))))
  else
  (if(v.Kind==(3:Int))then
  (some (((v.N==(0:Int))&&(v.U==(0:Int)))&&(decide ((v.S.length:Int)≤(40:Int)))))
  else
  (some ((v.Kind==(4:Int))&&(v.S==([])))))))

def qJ(less:Bool):Option Int:=
 if less then
 (some (-1:Int))
 else
 (some (1:Int))

def pL(a1:ac)(b:ac):Option Int:=
  if(a1.Kind !=b.Kind)then
  ((qJ (decide (a1.Kind<b.Kind))).bind fun r=>
  some r)
  else
  (if(a1.N !=b.N)then
  ((qJ (decide (a1.N<b.N))).bind fun r1=>
  some r1)
  else
  (if(a1.U !=b.U)then
  ((qJ (decide (a1.U<b.U))).bind fun r2=>
  some r2)
  else
  (if(!(a1.S==b.S))then
  ((qJ (Op.bytesLess a1.S b.S)).bind fun r3=>
  some r3)
  else
  (some (0:Int)))))

def lS(x1:Bool):Option Int:=
 if x1 then
 (some (1:Int))
 else
 (some (-1:Int))

def tm(op:Int)(x:Bool):Option Int:=
  if x then
  (some (2:Int))
  else
  (if(op==(3:Int))then
  (lS (op==(3:Int)))
  else
  (if(op==(4:Int))then
  (lS (op==(4:Int)))
  else
  (if(op==(5:Int))then
  (lS (op==(5:Int)))
  else
  (if(op==(6:Int))then
  (lS (op==(6:Int)))
  else
  (lS (op==(8:Int)))))))

def xC(op:Int):Option Int:=
  if(op==(1:Int))then
  (some (0:Int))
  else
  (if(op==(2:Int))then
  (tm op (op==(2:Int)))
  else
  (tm op (op==(7:Int))))

def bX:Nat→bc→Int→Option Int
  |0,_,_=>none
  |fu+1,l,at1=>
    if((decide (at1<(0:Int)))||(decide ((l.Nodes.length:Int)≤at1)))then
    (some (0:Int))
    else
    ((cN l.Nodes at1).bind fun e=>
    (xC e.Op).bind fun r=>
    if(r==(0:Int))then
    (if((e.A==(-1:Int))&&(e.B==(-1:Int)))then
    (some (1:Int))
    else
    (some (0:Int)))
    else
    (if(r==(1:Int))then
    (if((e.A==(IntKind.i64.wrap (at1-(1:Int))))&&(e.B==(-1:Int)))then
    (((bX fu) l e.A).bind fun r1=>
    if(decide ((0:Int)<r1))then
    (some (IntKind.i64.wrap (r1+(1:Int))))
    else
    (some (0:Int)))
    else
    (some (0:Int)))
    else
    (if(r==(2:Int))then
    (if(e.B==(IntKind.i64.wrap (at1-(1:Int))))then
    (((bX fu) l e.B).bind fun r2=>
    if((decide ((0:Int)<r2))&&(e.A==(IntKind.i64.wrap (e.B-r2))))then
    (((bX fu) l e.A).bind fun r3=>
    if(decide ((0:Int)<r3))then
    (some (IntKind.i64.wrap ((IntKind.i64.wrap (r3+r2))+(1:Int))))
    else
    (some (0:Int)))
    else
    (some (0:Int)))
    else
    (some (0:Int)))
    else
    (some (0:Int)))))

def kE(l:bc)(at1:Int):Option Int:=
 bX iz l at1

def vi(n:aj):Option Bool:=
  if((n.Op !=(1:Int))&&((n.Table !=(0:Int))||(decide ((0:Int)<(n.Kinds.length:Int)))))then
  (some false)
  else
  (if(((n.Op !=(2:Int))&&n.Left)||(((n.Op !=(2:Int))&&(n.Op !=(3:Int)))&&(decide ((0:Int)<(n.Cond.Nodes.length:Int)))))then
  (some false)
  else
  (if(((n.Op !=(4:Int))&&((decide ((0:Int)<(n.Keys.length:Int)))||(decide ((0:Int)<(n.Aggs.length:Int)))))||((n.Op !=(5:Int))&&(decide ((0:Int)<(n.Items.length:Int)))))then
  (some false)
  else
  (some ((n.Op==(8:Int))||(((n.Order.length:Int)==(0:Int))&&(n.Limit==(0:Int)))))))

def C1(tag:Int):Option Int:=
  if((decide (tag<(1:Int)))||(decide ((23:Int)<tag)))then
  (some (-1:Int))
  else
  (if(decide (tag≤(3:Int)))then
  (some (0:Int))
  else
  (if(decide (tag≤(11:Int)))then
  (some (1:Int))
  else
  (some (2:Int))))

def xE(tag:Int):Option Int:=
  if((tag==(3:Int))||((decide ((8:Int)≤tag))&&(decide (tag≤(11:Int)))))then
  (some (-1:Int))
  else
  ((C1 tag).bind fun r=>
  some r)

def mo(v:ac):Option Bool:=
 (dF v).bind fun r=>
 some (r&&(v.Kind !=(4:Int)))

def mJ(n:bo):Option Bool:=
  if(n.Tag==(1:Int))then
  ((mo n.Value).bind fun r=>
  some (r&&(n.Col==(0:Int))))
  else
  (if(n.Tag==(2:Int))then
  (some (((decide (n.Value=(⟨(0:Int),(0:Int),(0:Int),[]⟩:ac)))&&(decide ((0:Int)≤n.Col)))&&(decide (n.Col<(16:Int)))))
  else
  (some ((decide (n.Value=(⟨(0:Int),(0:Int),(0:Int),[]⟩:ac)))&&(n.Col==(0:Int)))))

def jk:Nat→bG→Int→Option Int
  |0,_,_=>none
  |fu+1,e,place=>
    if((decide (place<(0:Int)))||(decide ((e.Nodes.length:Int)≤place)))then
    (some (0:Int))
    else
    ((cN e.Nodes place).bind fun e1=>
    (xE e1.Tag).bind fun r=>
    (if(!(decide (r<(0:Int))))then((mJ e1).bind fun r1=>
    some (!r1))else some true).bind fun t=>
    if t then
    (some (0:Int))
    else
    (if(r==(0:Int))then
    (if((e1.L !=(-1:Int))||(e1.R !=(-1:Int)))then
    (some (0:Int))
    else
    (some (1:Int)))
    else
    (((jk fu) e (IntKind.i64.wrap (place-(1:Int)))).bind fun r2=>
    if(r2==(0:Int))then
    (some (0:Int))
    else
    (if(r==(1:Int))then
    (if((e1.L !=(IntKind.i64.wrap (place-(1:Int))))||(e1.R !=(-1:Int)))then
    (some (0:Int))
    else
    (some (IntKind.i64.wrap (r2+(1:Int)))))
    else
    (((jk fu) e (IntKind.i64.wrap ((IntKind.i64.wrap (place-(1:Int)))-r2))).bind fun r3=>
    if(((r3==(0:Int))||(e1.R !=(IntKind.i64.wrap (place-(1:Int)))))||(e1.L !=(IntKind.i64.wrap ((IntKind.i64.wrap (place-(1:Int)))-r2))))then
    (some (0:Int))
    else
    (some (IntKind.i64.wrap ((IntKind.i64.wrap (r3+r2))+(1:Int)))))))))

def EN(e:bG)(place:Int):Option Int:=
 jk iz e place

def uq(e:bG):Option Bool:=
  (if((decide ((1:Int)≤(e.Nodes.length:Int)))&&(decide ((e.Nodes.length:Int)≤(1000:Int))))then((EN e (IntKind.i64.wrap ((e.Nodes.length:Int)-(1:Int)))).bind fun r=>
  some (r==(e.Nodes.length:Int)))else some false).bind fun t=>
  some t

def iq(k:Int)(want:Int):Option Bool:=
 some ((k==want)||(k==(0:Int)))

def i8(tag:Int)(l:Int)(r:Int):Option (Int×Bool):=
  if((tag==(4:Int))||((decide ((12:Int)≤tag))&&(decide (tag≤(15:Int)))))then
  ((iq l (2:Int)).bind fun r1=>
  (if r1 then((iq r (2:Int)).bind fun r2=>
  some r2)else some false).bind fun t=>
  some ((2:Int),t))
  else
  (if((tag==(5:Int))||(decide ((22:Int)≤tag)))then
  ((iq l (1:Int)).bind fun r3=>
  (if r3 then((iq r (1:Int)).bind fun r4=>
  some r4)else some false).bind fun t1=>
  some ((1:Int),t1))
  else
  (if((tag==(6:Int))||(tag==(7:Int)))then
  (some ((1:Int),true))
  else
  (some ((1:Int),(((l==r)||(l==(0:Int)))||(r==(0:Int)))))))

def re(nx2:(List Int)→Option (Int×Int))(e3:bo)(own:List Int)(e6:Int)(r1:Int):Option (Int×Int):=
  (i8 e3.Tag e6 r1).bind fun r2=>
  if(!r2.2)then
  (some ((0:Int),(201:Int)))
  else
  ((app own ([r2.1])).bind fun own3=>
  nx2 own3)

def dh(kinds:(List Int)):List bo→(List Int)→Option (Int×Int)
  |[],own=>
    (cN own (IntKind.i64.wrap ((own.length:Int)-(1:Int)))).bind fun e4=>
    some (e4,(0:Int))
  |e3::tl2,own=>
    if(e3.Tag==(1:Int))then
    ((app own ([e3.Value.Kind])).bind fun own1=>
    (dh kinds tl2) own1)
    else
    (if(e3.Tag==(2:Int))then
    ((cN kinds e3.Col).bind fun e5=>
    (app own ([e5])).bind fun own2=>
    (dh kinds tl2) own2)
    else
    ((cN own e3.L).bind fun e6=>
    if(decide ((0:Int)≤e3.R))then
    ((cN own e3.R).bind fun e7=>
    re (dh kinds tl2) e3 own e6 e7)
    else
    (re (dh kinds tl2) e3 own e6 (0:Int))))

def oX(e:bG)(kinds:(List Int)):List bo→Option (Int×Int)
 |[]=>
  dh kinds e.Nodes ([]:List Int)
 |e2::tl1=>
  if((e2.Tag==(2:Int))&&(decide ((kinds.length:Int)≤e2.Col)))then
  (some ((0:Int),(2:Int)))
  else
  ((oX e kinds tl1))

def rd(e:bG)(kinds:(List Int)):List Int→Option (Int×Int)
 |[]=>
  oX e kinds e.Nodes
 |e1::tl=>
  if((decide (e1<(0:Int)))||(decide ((3:Int)<e1)))then
  (some ((0:Int),(2:Int)))
  else
  ((rd e kinds tl))

def tp(e:bG)(kinds:(List Int)):Option (Int×Int):=
 (uq e).bind fun r=>
 if(!r)then
 (some ((0:Int),(200:Int)))
 else
 (rd e kinds kinds)

def uo(e:bG)(kinds:(List Int)):Option Bool:=
 (tp e kinds).bind fun r=>
 some ((r.2==(0:Int))&&((r.1==(0:Int))||(r.1==(1:Int))))

def kT(a1:gS)(kinds:(List Int)):Option (Int×Bool):=
  if(a1.Tag==(1:Int))then
  (some ((2:Int),((a1.Arg.Nodes.length:Int)==(0:Int))))
  else
  ((tp a1.Arg kinds).bind fun r=>
  if(((decide (a1.Tag<(1:Int)))||(decide ((5:Int)<a1.Tag)))||(r.2 !=(0:Int)))then
  (some ((0:Int),false))
  else
  (if(((a1.Tag==(3:Int))&&(r.1 !=(2:Int)))&&(r.1 !=(0:Int)))then
  (some ((0:Int),false))
  else
  (if(decide ((4:Int)≤a1.Tag))then
  (some (r.1,true))
  else
  (some ((2:Int),true)))))

def dn(n:aj):Nat→Bool→Int→Option ((List Int)×Bool)
  |0,_,_=>none
  |n1+1,ok,i=>
    if(decide (i<(n.Kinds.length:Int)))then
    ((if ok then((cN n.Kinds i).bind fun e=>
    some (decide ((1:Int)≤e)))else some false).bind fun t=>
    (if t then((cN n.Kinds i).bind fun e1=>
    some (decide (e1≤(3:Int))))else some false).bind fun t1=>
    (dn n n1) t1 (IntKind.i64.wrap (i+(1:Int))))
    else
    (some (n.Kinds,((((ok&&(decide ((0:Int)≤n.Table)))&&(decide (n.Table≤(3:Int))))&&(decide ((1:Int)≤(n.Kinds.length:Int))))&&(decide ((n.Kinds.length:Int)≤(4:Int))))))

def dL(n:aj)(a1:(List Int)):Nat→(List Int)→Bool→Int→Option ((List Int)×Bool)
  |0,_,_,_=>none
  |n3+1,out3,ok1,i2=>
    if(decide (i2<(n.Aggs.length:Int)))then
    ((cN n.Aggs i2).bind fun e4=>
    (kT e4 a1).bind fun r2=>
    (app out3 ([r2.1])).bind fun out4=>
    (dL n a1 n3) out4 (ok1&&r2.2) (IntKind.i64.wrap (i2+(1:Int))))
    else
    (some (out3,(((ok1&&(decide ((n.Keys.length:Int)≤(3:Int))))&&(decide ((n.Aggs.length:Int)≤(12:Int))))&&(decide ((0:Int)<(out3.length:Int))))))

def dM(n:aj)(a1:(List Int)):Nat→(List Int)→Int→Option ((List Int)×Bool)
  |0,_,_=>none
  |n2+1,out1,i1=>
    if(decide (i1<(n.Keys.length:Int)))then
    ((cN n.Keys i1).bind fun e2=>
    if((decide (e2<(0:Int)))||(decide ((a1.length:Int)≤e2)))then
    (some ([],false))
    else
    ((cN a1 e2).bind fun e3=>
    (app out1 ([e3])).bind fun out2=>
    (dM n a1 n2) out2 (IntKind.i64.wrap (i1+(1:Int)))))
    else
    (dL n a1 iz out1 true (0:Int))

def dK(n:aj)(a1:(List Int)):Nat→(List Int)→Bool→Int→Option ((List Int)×Bool)
  |0,_,_,_=>none
  |n4+1,out5,ok2,i3=>
    if(decide (i3<(n.Items.length:Int)))then
    ((cN n.Items i3).bind fun e5=>
    (tp e5 a1).bind fun r3=>
    (app out5 ([r3.1])).bind fun out6=>
    (dK n a1 n4) out6 (ok2&&(r3.2==(0:Int))) (IntKind.i64.wrap (i3+(1:Int))))
    else
    (some (out5,((ok2&&(decide ((1:Int)≤(out5.length:Int))))&&(decide ((out5.length:Int)≤(16:Int))))))

def ip(b:(List Int))(nx4:Nat→(List Int)→Bool→Option ((List Int)×Bool))(i4:Nat)(out7:List Int)(ok3:Bool)(k:Int):Option ((List Int)×Bool):=
  (app out7 ([k])).bind fun out8=>
  (if ok3 then((cN b (i4:Int)).bind fun e7=>
  (if(!(e7==k))then((cN b (i4:Int)).bind fun e8=>
  some (e8==(0:Int)))else some true).bind fun t3=>
  some t3)else some false).bind fun t2=>
  nx4 (i4+1) out8 t2

def dm(b:(List Int)):List Int→Nat→(List Int)→Bool→Option ((List Int)×Bool)
  |[],i4,out7,ok3=>
    some (out7,ok3)
  |e6::tl,i4,out7,ok3=>
    if(e6==(0:Int))then
    ((cN b (i4:Int)).bind fun e9=>
    ip b (dm b tl) i4 out7 ok3 e9)
    else
    (ip b (dm b tl) i4 out7 ok3 e6)

def dc(n:aj)(a1:(List Int)):Nat→Bool→Int→Option ((List Int)×Bool)
  |0,_,_=>none
  |n5+1,ok4,i5=>
    if(decide (i5<(n.Order.length:Int)))then
    ((if ok4 then((cN n.Order i5).bind fun e10=>
    some (decide ((0:Int)≤e10.Col)))else some false).bind fun t4=>
    (if t4 then((cN n.Order i5).bind fun e11=>
    some (decide (e11.Col<(a1.length:Int))))else some false).bind fun t5=>
    (dc n a1 n5) t5 (IntKind.i64.wrap (i5+(1:Int))))
    else
    (some (a1,(((ok4&&(decide ((n.Order.length:Int)≤(3:Int))))&&(decide ((-1:Int)≤n.Limit)))&&(decide (n.Limit≤(2147483647:Int))))))

def bt(n:aj)(a1:(List Int))(b:(List Int)):Option ((List Int)×Bool):=
  if(n.Op==(1:Int))then
  (dn n iz true (0:Int))
  else
  (if(n.Op==(2:Int))then
  ((app ([]:List Int) a1).bind fun l=>
  (app l b).bind fun out=>
  (uo n.Cond out).bind fun r=>
  some (out,r))
  else
  (if(n.Op==(3:Int))then
  ((uo n.Cond a1).bind fun r1=>
  some (a1,r1))
  else
  (if(n.Op==(4:Int))then
  (dM n a1 iz ([]:List Int) (0:Int))
  else
  (if(n.Op==(5:Int))then
  (dK n a1 iz ([]:List Int) true (0:Int))
  else
  (if(n.Op==(6:Int))then
  (some (a1,true))
  else
  (if(n.Op==(7:Int))then
  (if((a1.length:Int) !=(b.length:Int))then
  (some ([],false))
  else
  (dm b a1 0 ([]:List Int) true))
  else
  (dc n a1 iz true (0:Int))))))))

def gK(l:bc)(at1:Int)(e1:aj)(a1:(List Int))(b1:(List Int)):Option ((List Int)×Bool):=
 (bt e1 a1 b1).bind fun r2=>
 if(((e1.Op==(8:Int))&&(at1 !=(IntKind.i64.wrap ((l.Nodes.length:Int)-(1:Int)))))||(decide ((16:Int)<(r2.1.length:Int))))then
 (some ([],false))
 else
 (some (r2.1,r2.2))

def eg(self__:bc→Int→Option ((List Int)×Bool))(l:bc)(at1:Int)(e1:aj)(a1:(List Int)):Option ((List Int)×Bool):=
  if(decide ((0:Int)≤e1.B))then
  ((self__ l e1.B).bind fun r3=>
  if(!r3.2)then
  (some ([],false))
  else
  (gK l at1 e1 a1 r3.1))
  else
  (gK l at1 e1 a1 ([]))

def ck:Nat→bc→Int→Option ((List Int)×Bool)
  |0,_,_=>none
  |fu+1,l,at1=>
    (kE l at1).bind fun r=>
    (if(!(r==(0:Int)))then((cN l.Nodes at1).bind fun e=>
    (vi e).bind fun r1=>
    some (!r1))else some true).bind fun t=>
    if t then
    (some ([],false))
    else
    ((cN l.Nodes at1).bind fun e1=>
    if(decide ((0:Int)≤e1.A))then
    (((ck fu) l e1.A).bind fun r4=>
    if(!r4.2)then
    (some ([],false))
    else
    (eg (ck fu) l at1 e1 r4.1))
    else
    (eg (ck fu) l at1 e1 ([])))

def rt(l:bc)(at1:Int):Option ((List Int)×Bool):=
 ck iz l at1

def fa(l:bc):List aj→Nat→Option Int
 |[],i=>
  (kE l (IntKind.i64.wrap ((l.Nodes.length:Int)-(1:Int)))).bind fun r=>
  if(r !=(l.Nodes.length:Int))then
  (some (IntKind.i64.wrap ((l.Nodes.length:Int)-(1:Int))))
  else
  (some (-1:Int))
 |e::tl,i=>
  (rt l (i:Int)).bind fun r1=>
  if(!r1.2)then
  (some (i:Int))
  else
  ((fa l tl) (i+1))

def rr(l:bc):Option Int:=
 if((decide ((l.Nodes.length:Int)<(1:Int)))||(decide ((60:Int)<(l.Nodes.length:Int))))then
 (some (0:Int))
 else
 (fa l l.Nodes 0)

def C0(l:bc):Option Bool:=
 (rr l).bind fun r=>
 some (decide (r<(0:Int)))

def kj(n:Int):Option ac:=
 some (⟨(2:Int),n,(0:Int),[]⟩:ac)

def pu(v:ac):Option Bool:=
 (dF v).bind fun r=>
 some (r&&((v.Kind==(0:Int))||(v.Kind==(2:Int))))

def nZ(high:Int)(low:Int)(b2:eH):Option eH:=
 some ({({({({b2 with D:=(b2.D.set (0:Int).toNat ((low).tmod (4294967296:Int)))}:eH)with D:=((({b2 with D:=(b2.D.set (0:Int).toNat ((low).tmod (4294967296:Int)))}:eH).D).set (1:Int).toNat ((low).fdiv (2^(min (Int.toNat (32:Int)) IntKind.u64.bits))))}:eH)with D:=((({({b2 with D:=(b2.D.set (0:Int).toNat ((low).tmod (4294967296:Int)))}:eH)with D:=((({b2 with D:=(b2.D.set (0:Int).toNat ((low).tmod (4294967296:Int)))}:eH).D).set (1:Int).toNat ((low).fdiv (2^(min (Int.toNat (32:Int)) IntKind.u64.bits))))}:eH).D).set (2:Int).toNat ((high).tmod (4294967296:Int)))}:eH)with D:=((({({({b2 with D:=(b2.D.set (0:Int).toNat ((low).tmod (4294967296:Int)))}:eH)with D:=((({b2 with D:=(b2.D.set (0:Int).toNat ((low).tmod (4294967296:Int)))}:eH).D).set (1:Int).toNat ((low).fdiv (2^(min (Int.toNat (32:Int)) IntKind.u64.bits))))}:eH)with D:=((({({b2 with D:=(b2.D.set (0:Int).toNat ((low).tmod (4294967296:Int)))}:eH)with D:=((({b2 with D:=(b2.D.set (0:Int).toNat ((low).tmod (4294967296:Int)))}:eH).D).set (1:Int).toNat ((low).fdiv (2^(min (Int.toNat (32:Int)) IntKind.u64.bits))))}:eH).D).set (2:Int).toNat ((high).tmod (4294967296:Int)))}:eH).D).set (3:Int).toNat ((high).fdiv (2^(min (Int.toNat (32:Int)) IntKind.u64.bits))))}:eH)

def rz(n:Int)(u:Int):Option eH:=
  if(decide (n<(0:Int)))then
  (if((IntKind.u64.wrap ((fc .xor .u64 (if IntKind.u64.signed then -1 else IntKind.u64.max) u)+(1:Int)))==(0:Int))then
  (nZ (IntKind.u64.wrap ((fc .xor .u64 (if IntKind.u64.signed then -1 else IntKind.u64.max) (IntKind.u64.wrap n))+(1:Int))) (IntKind.u64.wrap ((fc .xor .u64 (if IntKind.u64.signed then -1 else IntKind.u64.max) u)+(1:Int))) (eH.mk (⟨(List.replicate 8 (0:Int)),false⟩:eH).D true))
  else
  (nZ (fc .xor .u64 (if IntKind.u64.signed then -1 else IntKind.u64.max) (IntKind.u64.wrap n)) (IntKind.u64.wrap ((fc .xor .u64 (if IntKind.u64.signed then -1 else IntKind.u64.max) u)+(1:Int))) (eH.mk (⟨(List.replicate 8 (0:Int)),false⟩:eH).D true)))
  else
  (nZ (IntKind.u64.wrap n) u (⟨(List.replicate 8 (0:Int)),false⟩:eH))

def fI(n:Int):Option eH:=
  if(decide (n<(0:Int)))then
  ((rz (-1:Int) (IntKind.u64.wrap n)).bind fun r=>
  some r)
  else
  ((rz (0:Int) (IntKind.u64.wrap n)).bind fun r1=>
  some r1)

def lz(a1:eH)(b:eH):Nat→Int→Option Bool
  |0,_=>none
  |n+1,i=>
    if(decide ((0:Int)≤i))then
    ((cN a1.D i).bind fun e=>
    (cN b.D i).bind fun e1=>
    if(e !=e1)then
    (some (decide (e<e1)))
    else
    ((lz a1 b n) (IntKind.i64.wrap (i-(1:Int)))))
    else
    (some false)

def tt(a1:eH)(b:eH):Option Bool:=
 lz a1 b iz (7:Int)

def tq(a1:eH):Option Bool:=
 some (decide (a1.D=(List.replicate 8 (0:Int))))

def gL(a2:eH)(b4:eH):Nat→Nat→Int→eH→Option eH
  |0,i,carry,out=>
    (if out.Below then((tq out).bind fun r=>
    some (!r))else some false).bind fun t=>
    some (eH.mk out.D t)
  |k1+1,i,carry,out=>
    if(a2.Below==b4.Below)then
    ((RJ (i:Int) 8).bind fun u=>
    (cN a2.D (i:Int)).bind fun e1=>
    (RJ (i:Int) 8).bind fun u1=>
    (cN b4.D (i:Int)).bind fun e2=>
    (RJ (i:Int) 8).bind fun u2=>
    (gL a2 b4 k1) (i+1) (((IntKind.u64.wrap ((IntKind.u64.wrap (e1+e2))+carry))).fdiv (2^(min (Int.toNat (32:Int)) IntKind.u64.bits))) ({out with D:=(out.D.set (i:Int).toNat (((IntKind.u64.wrap ((IntKind.u64.wrap (e1+e2))+carry))).tmod (4294967296:Int)))}:eH))
    else
    ((RJ (i:Int) 8).bind fun u3=>
    (cN a2.D (i:Int)).bind fun e3=>
    (RJ (i:Int) 8).bind fun u4=>
    (cN b4.D (i:Int)).bind fun e4=>
    (RJ (i:Int) 8).bind fun u5=>
    (gL a2 b4 k1) (i+1) (IntKind.u64.wrap ((1:Int)-(((IntKind.u64.wrap ((IntKind.u64.wrap ((IntKind.u64.wrap (e3+(4294967296:Int)))-e4))-carry))).fdiv (2^(min (Int.toNat (32:Int)) IntKind.u64.bits))))) ({out with D:=(out.D.set (i:Int).toNat (((IntKind.u64.wrap ((IntKind.u64.wrap ((IntKind.u64.wrap (e3+(4294967296:Int)))-e4))-carry))).tmod (4294967296:Int)))}:eH))

def ii(a2:eH)(b4:eH):Option eH:=
 gL a2 b4 8 0 (0:Int) (⟨(List.replicate 8 (0:Int)),a2.Below⟩:eH)

def mK(a1:eH)(b:eH):Option eH:=
  (if(a1.Below !=b.Below)then((tt a1 b).bind fun r1=>
  some r1)else some false).bind fun t1=>
  if t1 then
  (ii b a1)
  else
  (ii a1 b)

def lA(a1:eH)(high:Int)(low:Int):Option (Int×Int×Bool):=
 some ((IntKind.i64.wrap high),low,((decide ((IntKind.i64.wrap high)<(0:Int)))==a1.Below))

def ff(a1:eH)(e:Int)(e1:Int)(e2:Int)(e3:Int):Nat→Nat→Option (Int×Int×Bool)
  |0,i=>
    if a1.Below then
    (if((IntKind.u64.wrap ((fc .xor .u64 (if IntKind.u64.signed then -1 else IntKind.u64.max) (IntKind.u64.wrap ((IntKind.u64.wrap (e2*2^(min (Int.toNat (32:Int)) IntKind.u64.bits)))+e3)))+(1:Int)))==(0:Int))then
    (lA a1 (IntKind.u64.wrap ((fc .xor .u64 (if IntKind.u64.signed then -1 else IntKind.u64.max) (IntKind.u64.wrap ((IntKind.u64.wrap (e*2^(min (Int.toNat (32:Int)) IntKind.u64.bits)))+e1)))+(1:Int))) (IntKind.u64.wrap ((fc .xor .u64 (if IntKind.u64.signed then -1 else IntKind.u64.max) (IntKind.u64.wrap ((IntKind.u64.wrap (e2*2^(min (Int.toNat (32:Int)) IntKind.u64.bits)))+e3)))+(1:Int))))
    else
    (lA a1 (fc .xor .u64 (if IntKind.u64.signed then -1 else IntKind.u64.max) (IntKind.u64.wrap ((IntKind.u64.wrap (e*2^(min (Int.toNat (32:Int)) IntKind.u64.bits)))+e1))) (IntKind.u64.wrap ((fc .xor .u64 (if IntKind.u64.signed then -1 else IntKind.u64.max) (IntKind.u64.wrap ((IntKind.u64.wrap (e2*2^(min (Int.toNat (32:Int)) IntKind.u64.bits)))+e3)))+(1:Int)))))
    else
    (lA a1 (IntKind.u64.wrap ((IntKind.u64.wrap (e*2^(min (Int.toNat (32:Int)) IntKind.u64.bits)))+e1)) (IntKind.u64.wrap ((IntKind.u64.wrap (e2*2^(min (Int.toNat (32:Int)) IntKind.u64.bits)))+e3)))
  |k1+1,i=>
    (cN a1.D (i:Int)).bind fun e5=>
    if(e5 !=(0:Int))then
    (some ((0:Int),(0:Int),false))
    else
    ((ff a1 e e1 e2 e3 k1) (i+1))

def we(a1:eH):Option (Int×Int×Bool):=
 (cN a1.D (3:Int)).bind fun e=>
 (cN a1.D (2:Int)).bind fun e1=>
 (cN a1.D (1:Int)).bind fun e2=>
 (cN a1.D (0:Int)).bind fun e3=>
 ff a1 e e1 e2 e3 (8-4) 4

def iJ(a1:eH):Option (Int×Bool):=
 (we a1).bind fun r=>
 some ((IntKind.i64.wrap r.2.1),(r.2.2&&(((r.1==(0:Int))&&(decide ((0:Int)≤(IntKind.i64.wrap r.2.1))))||((r.1==(-1:Int))&&(decide ((IntKind.i64.wrap r.2.1)<(0:Int)))))))

def sw(a1:eH):Option eH:=
  (if(!a1.Below)then((tq a1).bind fun r=>
  some (!r))else some false).bind fun t=>
  some (eH.mk a1.D t)

def jo(a1:eH)(b:eH)(nx:Nat→eH→Option eH)(i:Nat):Nat→Nat→Int→eH→Option eH
 |0,i1,carry,out1=>
  (RJ (IntKind.i64.wrap ((i:Int)+(4:Int))) 8).bind fun u=>
  nx (i+1) ({out1 with D:=(out1.D.set (IntKind.i64.wrap ((i:Int)+(4:Int))).toNat carry)}:eH)
 |k3+1,i1,carry,out1=>
  (RJ (IntKind.i64.wrap ((i:Int)+(i1:Int))) 8).bind fun u1=>
  (cN out1.D (IntKind.i64.wrap ((i:Int)+(i1:Int)))).bind fun e2=>
  (cN a1.D (i:Int)).bind fun e3=>
  (cN b.D (i1:Int)).bind fun e4=>
  (RJ (IntKind.i64.wrap ((i:Int)+(i1:Int))) 8).bind fun u2=>
  (jo a1 b nx i k3) (i1+1) (((IntKind.u64.wrap ((IntKind.u64.wrap (e2+(IntKind.u64.wrap (e3*e4))))+carry))).fdiv (2^(min (Int.toNat (32:Int)) IntKind.u64.bits))) ({out1 with D:=(out1.D.set (IntKind.i64.wrap ((i:Int)+(i1:Int))).toNat (((IntKind.u64.wrap ((IntKind.u64.wrap (e2+(IntKind.u64.wrap (e3*e4))))+carry))).tmod (4294967296:Int)))}:eH)

def fb(a1:eH)(b:eH):Nat→Nat→eH→Option eH
  |0,i,out=>
    (if(a1.Below !=b.Below)then((tq out).bind fun r=>
    some (!r))else some false).bind fun t=>
    some (eH.mk out.D t)
  |k1+1,i,out=>
    jo a1 b (fb a1 b k1) i 4 0 (0:Int) out

def ur(a1:eH)(b:eH):Option eH:=
 fb a1 b 4 0 (⟨(List.replicate 8 (0:Int)),false⟩:eH)

def nY(a1:eH)(b:eH):Option eH:=
 (cN a1.D (1:Int)).bind fun e=>
 (cN a1.D (0:Int)).bind fun e1=>
 (cN b.D (1:Int)).bind fun e2=>
 (cN b.D (0:Int)).bind fun e3=>
 (nz (IntKind.u64.wrap ((IntKind.u64.wrap (e2*2^(min (Int.toNat (32:Int)) IntKind.u64.bits)))+e3))).bind fun _=>
 some (⟨(((List.replicate 8 (0:Int)).set 0 (((IntKind.u64.wrap (((IntKind.u64.wrap ((IntKind.u64.wrap (e*2^(min (Int.toNat (32:Int)) IntKind.u64.bits)))+e1))).tdiv (IntKind.u64.wrap ((IntKind.u64.wrap (e2*2^(min (Int.toNat (32:Int)) IntKind.u64.bits)))+e3))))).tmod (4294967296:Int))).set 1 (((IntKind.u64.wrap (((IntKind.u64.wrap ((IntKind.u64.wrap (e*2^(min (Int.toNat (32:Int)) IntKind.u64.bits)))+e1))).tdiv (IntKind.u64.wrap ((IntKind.u64.wrap (e2*2^(min (Int.toNat (32:Int)) IntKind.u64.bits)))+e3))))).fdiv (2^(min (Int.toNat (32:Int)) IntKind.u64.bits)))),((a1.Below !=b.Below)&&((IntKind.u64.wrap (((IntKind.u64.wrap ((IntKind.u64.wrap (e*2^(min (Int.toNat (32:Int)) IntKind.u64.bits)))+e1))).tdiv (IntKind.u64.wrap ((IntKind.u64.wrap (e2*2^(min (Int.toNat (32:Int)) IntKind.u64.bits)))+e3)))) !=(0:Int)))⟩:eH)

def iU(op:Int)(a1:ac)(b:ac):Option (ac×Int):=
  (dF a1).bind fun r=>
  (if(!(!r))then((dF b).bind fun r1=>
  some (!r1))else some true).bind fun t=>
  if t then
  (some ((⟨(0:Int),(0:Int),(0:Int),[]⟩:ac),(120:Int)))
  else
  ((pu a1).bind fun r2=>
  (if(!(!r2))then((pu b).bind fun r3=>
  some (!r3))else some true).bind fun t1=>
  if t1 then
  (some ((⟨(0:Int),(0:Int),(0:Int),[]⟩:ac),(2:Int)))
  else
  (if((a1.Kind==(0:Int))||(b.Kind==(0:Int)))then
  (some ((⟨(0:Int),(0:Int),(0:Int),[]⟩:ac),(0:Int)))
  else
  (if(op==(43:Int))then
  ((fI a1.N).bind fun r4=>
  (fI b.N).bind fun r5=>
  (mK r4 r5).bind fun r6=>
  (iJ r6).bind fun r7=>
  if(!r7.2)then
  (some ((⟨(0:Int),(0:Int),(0:Int),[]⟩:ac),(140:Int)))
  else
  ((kj r7.1).bind fun r8=>
  some (r8,(0:Int))))
  else
  (if(op==(45:Int))then
  ((fI a1.N).bind fun r9=>
  (fI b.N).bind fun r10=>
  (sw r10).bind fun r11=>
  (mK r9 r11).bind fun r12=>
  (iJ r12).bind fun r13=>
  if(!r13.2)then
  (some ((⟨(0:Int),(0:Int),(0:Int),[]⟩:ac),(140:Int)))
  else
  ((kj r13.1).bind fun r14=>
  some (r14,(0:Int))))
  else
  (if(op==(42:Int))then
  ((fI a1.N).bind fun r15=>
  (fI b.N).bind fun r16=>
  (ur r15 r16).bind fun r17=>
  (iJ r17).bind fun r18=>
  if(!r18.2)then
  (some ((⟨(0:Int),(0:Int),(0:Int),[]⟩:ac),(140:Int)))
  else
  ((kj r18.1).bind fun r19=>
  some (r19,(0:Int))))
  else
  (if(b.N==(0:Int))then
  (some ((⟨(0:Int),(0:Int),(0:Int),[]⟩:ac),(140:Int)))
  else
  ((fI a1.N).bind fun r20=>
  (fI b.N).bind fun r21=>
  (nY r20 r21).bind fun r22=>
  (iJ r22).bind fun r23=>
  if(!r23.2)then
  (some ((⟨(0:Int),(0:Int),(0:Int),[]⟩:ac),(140:Int)))
  else
  ((kj r23.1).bind fun r24=>
  some (r24,(0:Int))))))))))

def kF(b:Bool):Option ac:=
 if b then
 (some (⟨(1:Int),(1:Int),(0:Int),[]⟩:ac))
 else
 (some (⟨(1:Int),(0:Int),(0:Int),[]⟩:ac))

def qb(a1:ac)(b:ac):Option Int:=
  (dF a1).bind fun r=>
  (if(!(!r))then((dF b).bind fun r1=>
  some (!r1))else some true).bind fun t=>
  if t then
  (some (120:Int))
  else
  (if((decide ((1:Int)<a1.Kind))||(decide ((1:Int)<b.Kind)))then
  (some (2:Int))
  else
  (some (0:Int)))

def i9(a1:ac):Option (ac×Int):=
  (qb a1 a1).bind fun r=>
  if((r !=(0:Int))||(a1.Kind==(0:Int)))then
  (some ((⟨(0:Int),(0:Int),(0:Int),[]⟩:ac),r))
  else
  ((kF (a1.N==(0:Int))).bind fun r1=>
  some (r1,(0:Int)))

def sN(a1:ac)(b:ac):Option (ac×Int):=
  (qb a1 b).bind fun r=>
  (kF false).bind fun r1=>
  if(r !=(0:Int))then
  (some ((⟨(0:Int),(0:Int),(0:Int),[]⟩:ac),r))
  else
  (if((decide (a1=r1))||(decide (b=r1)))then
  (some (r1,(0:Int)))
  else
  (if((a1.Kind==(0:Int))||(b.Kind==(0:Int)))then
  (some ((⟨(0:Int),(0:Int),(0:Int),[]⟩:ac),(0:Int)))
  else
  ((kF true).bind fun r2=>
  some (r2,(0:Int)))))

def xF(a1:ac)(b:ac):Option (ac×Int):=
  (qb a1 b).bind fun r=>
  if(r !=(0:Int))then
  (some ((⟨(0:Int),(0:Int),(0:Int),[]⟩:ac),r))
  else
  ((i9 a1).bind fun r1=>
  (i9 b).bind fun r2=>
  (sN r1.1 r2.1).bind fun r3=>
  (i9 r3.1).bind fun r4=>
  some (r4.1,r4.2))

def tu(a1:ac)(b:ac):Option Int:=
  (dF a1).bind fun r=>
  (if(!(!r))then((dF b).bind fun r1=>
  some (!r1))else some true).bind fun t=>
  if t then
  (some (120:Int))
  else
  ((mo a1).bind fun r2=>
  (if(!(!r2))then((mo b).bind fun r3=>
  some (!r3))else some true).bind fun t1=>
  if(t1||(((a1.Kind !=(0:Int))&&(b.Kind !=(0:Int)))&&(a1.Kind !=b.Kind)))then
  (some (2:Int))
  else
  (some (0:Int)))

def lU(a1:ac)(b:ac):Nat→Int→Option Int
  |0,_=>none
  |n+1,i=>
    if((decide (i<(a1.S.length:Int)))&&(decide (i<(b.S.length:Int))))then
    ((PY a1.S i).bind fun b1=>
    (PY b.S i).bind fun b2=>
    if(b1 !=b2)then
    ((PY a1.S i).bind fun b3=>
    (PY b.S i).bind fun b4=>
    if(decide (b3<b4))then
    (some (-1:Int))
    else
    (some (1:Int)))
    else
    ((lU a1 b n) (IntKind.i64.wrap (i+(1:Int)))))
    else
    (if((a1.S.length:Int) !=(b.S.length:Int))then
    (if(decide ((a1.S.length:Int)<(b.S.length:Int)))then
    (some (-1:Int))
    else
    (some (1:Int)))
    else
    (some (0:Int)))

def oY(a1:ac)(b:ac):Option Int:=
  (mo a1).bind fun r=>
  (if(!(!r))then((mo b).bind fun r1=>
  some (!r1))else some true).bind fun t=>
  if t then
  (some (0:Int))
  else
  (if(a1.Kind !=b.Kind)then
  (if(decide (a1.Kind<b.Kind))then
  (some (-1:Int))
  else
  (some (1:Int)))
  else
  (if(a1.N !=b.N)then
  (if(decide (a1.N<b.N))then
  (some (-1:Int))
  else
  (some (1:Int)))
  else
  (lU a1 b iz (0:Int))))

def rA(a1:ac)(b:ac):Option (ac×Int):=
  (tu a1 b).bind fun r=>
  if(((r !=(0:Int))||(a1.Kind==(0:Int)))||(b.Kind==(0:Int)))then
  (some ((⟨(0:Int),(0:Int),(0:Int),[]⟩:ac),r))
  else
  ((oY a1 b).bind fun r1=>
  (kF (r1==(0:Int))).bind fun r2=>
  some (r2,(0:Int)))

def mL(a1:ac)(b:ac):Option (ac×Int):=
  (tu a1 b).bind fun r=>
  if(((r !=(0:Int))||(a1.Kind==(0:Int)))||(b.Kind==(0:Int)))then
  (some ((⟨(0:Int),(0:Int),(0:Int),[]⟩:ac),r))
  else
  ((oY a1 b).bind fun r1=>
  (kF (decide (r1<(0:Int)))).bind fun r2=>
  some (r2,(0:Int)))

def EP(tag:Int)(a1:ac)(b:ac):Option (ac×Int):=
  if(tag==(16:Int))then
  ((rA a1 b).bind fun r=>
  some (r.1,r.2))
  else
  (if(tag==(18:Int))then
  ((mL a1 b).bind fun r1=>
  some (r1.1,r1.2))
  else
  (if(tag==(20:Int))then
  ((mL b a1).bind fun r2=>
  some (r2.1,r2.2))
  else
  (if(tag==(17:Int))then
  ((rA a1 b).bind fun r3=>
  (i9 r3.1).bind fun r4=>
  some (r4.1,r3.2))
  else
  (if(tag==(19:Int))then
  ((mL b a1).bind fun r5=>
  (i9 r5.1).bind fun r6=>
  some (r6.1,r5.2))
  else
  ((mL a1 b).bind fun r7=>
  (i9 r7.1).bind fun r8=>
  some (r8.1,r7.2))))))

def EO(tag:Int)(a1:ac)(b:ac):Option (ac×Int):=
  if(tag==(4:Int))then
  ((kj (0:Int)).bind fun r=>
  (iU (45:Int) r a1).bind fun r1=>
  some (r1.1,r1.2))
  else
  (if(tag==(12:Int))then
  ((iU (43:Int) a1 b).bind fun r2=>
  some (r2.1,r2.2))
  else
  (if(tag==(13:Int))then
  ((iU (45:Int) a1 b).bind fun r3=>
  some (r3.1,r3.2))
  else
  (if(tag==(14:Int))then
  ((iU (42:Int) a1 b).bind fun r4=>
  some (r4.1,r4.2))
  else
  (if(tag==(15:Int))then
  ((iU (47:Int) a1 b).bind fun r5=>
  some (r5.1,r5.2))
  else
  (if(tag==(5:Int))then
  ((i9 a1).bind fun r6=>
  some (r6.1,r6.2))
  else
  (if(tag==(22:Int))then
  ((sN a1 b).bind fun r7=>
  some (r7.1,r7.2))
  else
  (if(tag==(23:Int))then
  ((xF a1 b).bind fun r8=>
  some (r8.1,r8.2))
  else
  (if(tag==(6:Int))then
  ((kF (a1.Kind==(0:Int))).bind fun r9=>
  some (r9,(0:Int)))
  else
  (if(tag==(7:Int))then
  ((kF (a1.Kind !=(0:Int))).bind fun r10=>
  some (r10,(0:Int)))
  else
  ((EP tag a1 b).bind fun r11=>
  some (r11.1,r11.2)))))))))))

def rh(nx1:(List ac)→ac→Option (ac×Int))(e2:bo)(own:List ac)(x1:ac)(e5:ac)(b4:ac):Option (ac×Int):=
  (EO e2.Tag e5 b4).bind fun r2=>
  if(r2.2==(140:Int))then
  (some ((⟨(0:Int),(0:Int),(0:Int),[]⟩:ac),r2.2))
  else
  (if(r2.2 !=(0:Int))then
  (some ((⟨(0:Int),(0:Int),(0:Int),[]⟩:ac),(201:Int)))
  else
  ((app own ([r2.1])).bind fun own3=>
  nx1 own3 x1))

def c0(r:(List ac)):List bo→(List ac)→ac→Option (ac×Int)
  |[],own,x1=>
    (cN own (IntKind.i64.wrap ((own.length:Int)-(1:Int)))).bind fun e3=>
    some (e3,(0:Int))
  |e2::tl1,own,x1=>
    if(e2.Tag==(1:Int))then
    ((app own ([e2.Value])).bind fun own1=>
    (c0 r tl1) own1 x1)
    else
    (if(e2.Tag==(2:Int))then
    ((cN r e2.Col).bind fun e4=>
    (app own ([e4])).bind fun own2=>
    (c0 r tl1) own2 x1)
    else
    ((cN own e2.L).bind fun e5=>
    if(decide ((0:Int)≤e2.R))then
    ((cN own e2.R).bind fun e6=>
    rh (c0 r tl1) e2 own x1 e5 e6)
    else
    (rh (c0 r tl1) e2 own x1 e5 (⟨(0:Int),(0:Int),(0:Int),[]⟩:ac))))

def rf(e:bG)(r:(List ac)):List bo→ac→Option (ac×Int)
  |[],x=>
    c0 r e.Nodes ([]:List ac) x
  |e1::tl,x=>
    (if(e1.Tag==(2:Int))then((if(!(decide ((r.length:Int)≤e1.Col)))then((cN r e1.Col).bind fun e7=>
    (mo e7).bind fun r3=>
    some (!r3))else some true).bind fun t1=>
    some t1)else some false).bind fun t=>
    if t then
    (some ((⟨(0:Int),(0:Int),(0:Int),[]⟩:ac),(2:Int)))
    else
    ((rf e r tl) x)

def Aa(e:bG)(r:(List ac)):Option (ac×Int):=
 (uq e).bind fun r1=>
 if(!r1)then
 (some ((⟨(0:Int),(0:Int),(0:Int),[]⟩:ac),(200:Int)))
 else
 (rf e r e.Nodes (⟨(0:Int),(0:Int),(0:Int),[]⟩:ac))

def ru(v:ac):Option Bool:=
 (dF v).bind fun r=>
 some (r&&((v.Kind==(0:Int))||(v.Kind==(4:Int))))

def yz(a1:eH):Option (ac×Int):=
 (we a1).bind fun r=>
 if(!r.2.2)then
 (some ((⟨(0:Int),(0:Int),(0:Int),[]⟩:ac),(140:Int)))
 else
 (some ((⟨(4:Int),r.1,r.2.1,[]⟩:ac),(0:Int)))

def sM(s:ac)(v:ac):Option (ac×Int):=
  (dF s).bind fun r=>
  (if(!(!r))then((dF v).bind fun r1=>
  some (!r1))else some true).bind fun t=>
  if t then
  (some ((⟨(0:Int),(0:Int),(0:Int),[]⟩:ac),(120:Int)))
  else
  ((ru s).bind fun r2=>
  (if(!(!r2))then((pu v).bind fun r3=>
  some (!r3))else some true).bind fun t1=>
  if t1 then
  (some ((⟨(0:Int),(0:Int),(0:Int),[]⟩:ac),(2:Int)))
  else
  (if(v.Kind==(0:Int))then
  (some (s,(0:Int)))
  else
  (if(s.Kind==(0:Int))then
  ((fI v.N).bind fun r4=>
  (yz r4).bind fun r5=>
  some (r5.1,r5.2))
  else
  ((rz s.N s.U).bind fun r6=>
  (fI v.N).bind fun r7=>
  (mK r6 r7).bind fun r8=>
  (yz r8).bind fun r9=>
  some (r9.1,r9.2)))))

def vj(s:ac):Option (ac×Int):=
  (dF s).bind fun r=>
  if(!r)then
  (some ((⟨(0:Int),(0:Int),(0:Int),[]⟩:ac),(120:Int)))
  else
  ((ru s).bind fun r1=>
  if(!r1)then
  (some ((⟨(0:Int),(0:Int),(0:Int),[]⟩:ac),(2:Int)))
  else
  (if(s.Kind==(0:Int))then
  (some (s,(0:Int)))
  else
  ((rz s.N s.U).bind fun r2=>
  (iJ r2).bind fun r3=>
  if(!r3.2)then
  (some ((⟨(0:Int),(0:Int),(0:Int),[]⟩:ac),(140:Int)))
  else
  ((kj r3.1).bind fun r4=>
  some (r4,(0:Int))))))

def gM(nx:Int→Int→ac→ac→ac→Option (ac×Int))(n1:Int)(fault1:Int)(x1:ac)(sum1:ac)(best1:ac):Option (ac×Int):=
 nx n1 fault1 x1 sum1 best1

def mI(a1:gS)(nx:Int→Int→ac→ac→ac→Option (ac×Int))(n:Int)(fault:Int)(x:ac)(best:ac)(r3:ac×Int)(sum2:ac):Option (ac×Int):=
  (if(!((IntKind.i64.wrap (n+(1:Int)))==(1:Int)))then((if(a1.Tag==(4:Int))then((pL r3.1 best).bind fun r4=>
  some (decide (r4<(0:Int))))else some false).bind fun t1=>
  some t1)else some true).bind fun t=>
  (if(!t)then((if(a1.Tag==(5:Int))then((pL r3.1 best).bind fun r5=>
  some (decide ((0:Int)<r5)))else some false).bind fun t3=>
  some t3)else some true).bind fun t2=>
  if t2 then
  (gM nx (IntKind.i64.wrap (n+(1:Int))) fault x sum2 r3.1)
  else
  (gM nx (IntKind.i64.wrap (n+(1:Int))) fault x sum2 best)

def fO(a1:gS):List (List ac)→Int→Int→ac→ac→ac→Option (ac×Int)
  |[],n,fault,x,sum,best=>
    if(fault !=(0:Int))then
    (some ((⟨(0:Int),(0:Int),(0:Int),[]⟩:ac),fault))
    else
    (if(a1.Tag==(2:Int))then
    ((kj n).bind fun r1=>
    some (r1,(0:Int)))
    else
    (if(a1.Tag==(3:Int))then
    ((vj sum).bind fun r2=>
    some (r2.1,r2.2))
    else
    (some (best,(0:Int)))))
  |e::tl,n,fault,x,sum,best=>
    (Aa a1.Arg e).bind fun r3=>
    if(r3.2==(140:Int))then
    (gM (fO a1 tl) n r3.2 x sum best)
    else
    (if((r3.2 !=(0:Int))||(((a1.Tag==(3:Int))&&(r3.1.Kind !=(0:Int)))&&(r3.1.Kind !=(2:Int))))then
    (some ((⟨(0:Int),(0:Int),(0:Int),[]⟩:ac),(2:Int)))
    else
    (if(r3.1.Kind==(0:Int))then
    (gM (fO a1 tl) n fault x sum best)
    else
    (if(a1.Tag==(3:Int))then
    ((sM sum r3.1).bind fun r6=>
    mI a1 (fO a1 tl) n fault x best r3 r6.1)
    else
    (mI a1 (fO a1 tl) n fault x best r3 sum))))

def rW(a1:gS)(l:(List (List ac))):Option (ac×Int):=
  if(a1.Tag==(1:Int))then
  ((kj (l.length:Int)).bind fun r=>
  some (r,(0:Int)))
  else
  (fO a1 l (0:Int) (0:Int) (⟨(0:Int),(0:Int),(0:Int),[]⟩:ac) (⟨(0:Int),(0:Int),(0:Int),[]⟩:ac) (⟨(0:Int),(0:Int),(0:Int),[]⟩:ac))

def uR(r:(List ac)):List Int→(List ac)→Option (List ac)
 |[],out=>
  some out
 |e::tl,out=>
  (cN r e).bind fun e1=>
  (app out ([e1])).bind fun out1=>
  (uR r tl) out1

def bZ(s2:(List (List ac)))(eq:((List ac)→(List ac)→Option Bool)):List (List ac)→Nat→Option Bool
 |[],i=>
  some true
 |e::tl,i=>
  (cN s2 (i:Int)).bind fun e1=>
  (eq e e1).bind fun r=>
  if(!r)then
  (some false)
  else
  ((bZ s2 eq tl) (i+1))

def dY(s1:(List (List ac)))(s2:(List (List ac)))(eq:((List ac)→(List ac)→Option Bool)):Option Bool:=
 if((s1.length:Int) !=(s2.length:Int))then
 (some false)
 else
 (bZ s2 eq s1 0)

def A3(a1:(List (List ac)))(b:(List (List ac))):Option Bool:=
 (dY a1 b np).bind fun r=>
 some r

def nu(nx:Nat→aj→bc→bc→Option (bc×Int))(i:Nat)(n1:aj)(x:bc)(out:bc):List aj→bc→Option (bc×Int)
 |[],out1=>
  if((i:Int)==(0:Int))then
  (nx (i+1) (aj.mk n1.Op (IntKind.i64.wrap ((out1.Nodes.length:Int)-(1:Int))) n1.B n1.Table n1.Kinds n1.Left n1.Cond n1.Keys n1.Aggs n1.Items n1.Order n1.Limit) x out1)
  else
  (nx (i+1) (aj.mk n1.Op n1.A (IntKind.i64.wrap ((out1.Nodes.length:Int)-(1:Int))) n1.Table n1.Kinds n1.Left n1.Cond n1.Keys n1.Aggs n1.Items n1.Order n1.Limit) x out1)
 |e1::tl1,out1=>
  (oG e1 (out.Nodes.length:Int)).bind fun r3=>
  (app out1.Nodes ([r3])).bind fun l5=>
  (nu nx i n1 x out tl1) ({out1 with Nodes:=l5}:bc)

def ij:List bc→Nat→aj→bc→bc→Option (bc×Int)
 |[],i,n1,x,out=>
  (oG n1 (0:Int)).bind fun r=>
  (app out.Nodes ([r])).bind fun l2=>
  (mp ({out with Nodes:=l2}:bc)).bind fun r1=>
  if(r1.2 !=(0:Int))then
  (some ((⟨[]⟩:bc),r1.2))
  else
  (some (({out with Nodes:=l2}:bc),(0:Int)))
 |e::tl,i,n1,x,out=>
  (mp e).bind fun r2=>
  if(r2.2 !=(0:Int))then
  (some ((⟨[]⟩:bc),r2.2))
  else
  (nu (ij tl) i n1 x out e.Nodes out)

def wk(n:aj)(l:(List bc)):Option (bc×Int):=
 ij l 0 (aj.mk n.Op (-1:Int) (-1:Int) n.Table n.Kinds n.Left n.Cond n.Keys n.Aggs n.Items n.Order n.Limit) (⟨[]⟩:bc) ({(⟨[]⟩:bc)with Nodes:=([]:List aj)}:bc)

def vt(n:aj)(a1:bc)(b:bc):Option (bc×Int):=
 (wk n ([a1,b])).bind fun r=>
 some (r.1,r.2)

def yw(l:(List (List (List ac)))):Option ((List (List ac))×Int):=
  (sL l).bind fun r=>
  if(r !=(0:Int))then
  (some ([],r))
  else
  ((dR l).bind fun r1=>
  (tg r1).bind fun r2=>
  some (r2.1,r2.2))

def od(nx:Nat→Option Bool)(i:Nat):Option Bool:=
 nx (i+1)

def lr(nx:Nat→Option Bool)(i:Nat)(r5:(List (List ac))×Int)(want:Int):Option Bool:=
 if((r5.2 !=(0:Int))||((r5.1.length:Int) !=want))then
 (some false)
 else
 (od nx i)

def dG(l:bc)(b:dx)(r3:(List (List ac))×Int):Nat→Nat→Option Bool
  |0,i=>
    some true
  |k1+1,i=>
    (cN ([false,true]) (i:Int)).bind fun e1=>
    (vt (⟨(2:Int),(0:Int),(0:Int),(0:Int),[],e1,(⟨[(⟨(1:Int),(-1:Int),(-1:Int),(0:Int),(⟨(1:Int),(0:Int),(0:Int),[]⟩:ac)⟩:bo)]⟩:bG),[],[],[],[],(0:Int)⟩:aj) l l).bind fun r4=>
    if(r4.2 !=(0:Int))then
    (od (dG l b r3 k1) i)
    else
    ((hJ r4.1 b).bind fun r5=>
    if e1 then
    (lr (dG l b r3 k1) i r5 (r3.1.length:Int))
    else
    (lr (dG l b r3 k1) i r5 (0:Int)))

def jt(l:bc)(b:dx)(r3:(List (List ac))×Int):Option Bool:=
 dG l b r3 2 0

def nL(l:bc)(b:dx):Option Bool:=
  (uw).bind fun r=>
  if(!r)then
  (some false)
  else
  ((qi b).bind fun r1=>
  (if(!r1)then((wl l b).bind fun r2=>
  some r2)else some true).bind fun t=>
  if t then
  (some true)
  else
  ((hJ l b).bind fun r3=>
  if((r3.2 !=(0:Int))||(decide ((60:Int)<(r3.1.length:Int))))then
  (some true)
  else
  ((vt (⟨(7:Int),(0:Int),(0:Int),(0:Int),[],false,(⟨[]⟩:bG),[],[],[],[],(0:Int)⟩:aj) l l).bind fun r6=>
  if(r6.2==(0:Int))then
  ((hJ r6.1 b).bind fun r7=>
  (yw ([r3.1,r3.1])).bind fun r8=>
  (if(!((r7.2 !=(0:Int))||(r8.2 !=(0:Int))))then((A3 r7.1 r8.1).bind fun r9=>
  some (!r9))else some true).bind fun t1=>
  if t1 then
  (some false)
  else
  (jt l b r3))
  else
  (jt l b r3))))


end Go.Proofs.YtfhhakidodmdfaaGreatDoor

