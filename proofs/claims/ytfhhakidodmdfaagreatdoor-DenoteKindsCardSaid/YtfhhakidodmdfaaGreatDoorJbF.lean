/- db of this claim: F. -/
import Derived.Test.YtfhhakidodmdfaaGreatDoorJbD
import Derived.Test.YtfhhakidodmdfaaGreatDoorJbV4
set_option linter.all false
namespace Go.Proofs.YtfhhakidodmdfaaGreatDoor
open Go

def fE(f:(Int→Option Bool)):List Int→Nat→Option Int
 |[],i=>
  some (-1:Int)
 |e::tl,i=>
  (f e).bind fun r=>
  if r then
  (some (i:Int))
  else
  ((fE f tl) (i+1))

def ln(s:(List Int))(f:(Int→Option Bool)):Option Int:=
 fE f s 0

def cx(s:(List Int))(f:(Int→Option Bool)):Option Bool:=
 (ln s f).bind fun r=>
 some (decide ((0:Int)≤r))

def CD(k:Int):Option Bool:=
 some (((k==(1:Int))||(k==(2:Int)))||(k==(3:Int)))

def jr(k:Int):Option Bool:=
 (CD k).bind fun r=>
 some (!r)

def eX(c:aE)(n:am):Option ((List Int)×Bool):=
  (if((((decide ((0:Int)≤n.Table))&&(decide (n.Table<(4:Int))))&&(decide ((1:Int)≤(n.Kinds.length:Int))))&&(decide ((n.Kinds.length:Int)≤(4:Int))))then((cx n.Kinds jr).bind fun r=>
  some (!r))else some false).bind fun t=>
  some (n.Kinds,t)

def mh(s:List Int):Option (List Int):=
 some s

def mi(n:Int):Option (List Int):=
  if(decide ((0:Int)<(IntKind.i64.wrap (n-(IntKind.i64.wrap ((0:Int)-(0:Int)))))))then
  ((Wj (IntKind.i64.wrap (n-(IntKind.i64.wrap ((0:Int)-(0:Int)))))).bind fun _=>
  (nC (IntKind.i64.wrap (n-(IntKind.i64.wrap ((0:Int)-(0:Int))))) (0:Int)).bind fun mk=>
  (dD mk 0 (0:Int)).bind fun y=>
  mh y)
  else
  (mh ([]:List Int))

def lz(n:Int):Option (List Int):=
 if(decide (n<(0:Int)))then
 (none)
 else
 (mi n)

def jf:List (List Int)→(List Int)→Option (List Int)
 |[],newslice=>
  some newslice
 |e1::tl1,newslice=>
  (app newslice e1).bind fun newslice1=>
  (jf tl1) newslice1

def jg(slices:(List (List Int))):List (List Int)→Int→Option (List Int)
 |[],size=>
  (lz size).bind fun r=>
  jf slices r
 |e::tl,size=>
  if(decide ((IntKind.i64.wrap (size+(e.length:Int)))<(0:Int)))then
  (none)
  else
  ((jg slices tl) (IntKind.i64.wrap (size+(e.length:Int))))

def iP(slices:(List (List Int))):Option (List Int):=
 jg slices slices (0:Int)

def pc(tag:Int):Option Int:=
  if((tag==(1:Int))||(tag==(2:Int)))then
  (some (0:Int))
  else
  (if((decide ((4:Int)≤tag))&&(decide (tag≤(7:Int))))then
  (some (1:Int))
  else
  (if((decide ((12:Int)≤tag))&&(decide (tag≤(23:Int))))then
  (some (2:Int))
  else
  (some (-1:Int))))

def kp(v1:ac):Option ac:=
 some v1

def pL(v2:ac):Option ac:=
 kp (ac.mk (0:Int) v2.N v2.U v2.S)

def pK(v:ac):Option ac:=
 pL (ac.mk v.Kind (0:Int) v.U v.S)

def pJ(v3:ac):Option ac:=
 kp v3

def wQ(v:ac):Option ac:=
  if(v.Kind==(1:Int))then
  (if((v.N !=(0:Int))&&(v.N !=(1:Int)))then
  (kp v)
  else
  (pK v))
  else
  (if(v.Kind==(2:Int))then
  (pK v)
  else
  (if(v.Kind==(0:Int))then
  (pL v)
  else
  (if(v.Kind==(3:Int))then
  (if(decide ((v.S.length:Int)≤(40:Int)))then
  (pJ (ac.mk (0:Int) v.N v.U ([])))
  else
  (pJ v))
  else
  (if(v.Kind==(4:Int))then
  (kp (ac.mk (0:Int) (0:Int) (0:Int) v.S))
  else
  (kp v)))))

def kY(v:ac):Option Int:=
 (wQ v).bind fun r=>
 if(!decide (r=(⟨(0:Int),(0:Int),(0:Int),[]⟩:ac)))then
 (some (120:Int))
 else
 (some (0:Int))

def ma(v:ac):Option Bool:=
 (kY v).bind fun r=>
 some ((r==(0:Int))&&(v.Kind !=(4:Int)))

def ud(n:aX):Option Bool:=
  if(n.Tag==(1:Int))then
  ((ma n.Value).bind fun r=>
  some (r&&(n.Col==(0:Int))))
  else
  (if(n.Tag==(2:Int))then
  (some (((decide (n.Value=(⟨(0:Int),(0:Int),(0:Int),[]⟩:ac)))&&(decide ((0:Int)≤n.Col)))&&(decide (n.Col<(16:Int)))))
  else
  (some ((decide (n.Value=(⟨(0:Int),(0:Int),(0:Int),[]⟩:ac)))&&(n.Col==(0:Int)))))

def lQ(nx:Nat→(List Int)→(List Int)→Option ((List Int)×Bool))(i:Nat)(e1:aX)(all:List Int)(open1:List Int)(r:Int):List Int→Nat→Int→(List Int)→Option ((List Int)×Bool)
  |[],i1,first,at1=>
    if(!decide (at1=([e1.L,e1.R])))then
    (some ([],false))
    else
    ((app all ([first])).bind fun all1=>
    (dD open1 0 (IntKind.i64.wrap ((open1.length:Int)-r))).bind fun y1=>
    (app y1 ([(i:Int)])).bind fun open2=>
    nx (i+1) all1 open2)
  |e2::tl1,i1,first,at1=>
    (cN all e2).bind fun e3=>
    (cN at1 (i1:Int)).bind fun e4=>
    (some (at1.set (i1:Int).toNat e2)).bind fun ar=>
    (lQ nx i e1 all open1 r tl1) (i1+1) (min first e3) ar

def kD:List aX→Nat→(List Int)→(List Int)→Option ((List Int)×Bool)
  |[],i,all,open1=>
    some (all,(((open1.length:Int)==(1:Int))&&(decide ((all.length:Int)≤(1000:Int)))))
  |e1::tl,i,all,open1=>
    (pc e1.Tag).bind fun r=>
    (if(!((decide (r<(0:Int)))||(decide ((open1.length:Int)<r))))then((ud e1).bind fun r1=>
    some (!r1))else some true).bind fun t=>
    if t then
    (some ([],false))
    else
    ((dD open1 (IntKind.i64.wrap ((open1.length:Int)-r)) (open1.length:Int)).bind fun y=>
    lQ (kD tl) i e1 all open1 r y 0 (i:Int) ([(-1:Int),(-1:Int)]))

def xp(e:br):Option ((List Int)×Bool):=
 kD e.Nodes 0 ([]:List Int) ([]:List Int)

def pe(e:br):Option Int:=
 (xp e).bind fun r=>
 if(!r.2)then
 (some (200:Int))
 else
 (some (0:Int))

def dX(i:Nat)(y:List Int):Nat→Nat→(List Int)→Int→Option (List Int)
  |0,i1,s1,k=>
    (dD s1 k (s1.length:Int)).bind fun y1=>
    (some (s1.take k.toNat++List.replicate y1.length (0:Int))).bind fun cl=>
    (dD cl 0 k).bind fun y2=>
    some y2
  |k2+1,i1,s1,k=>
    (xj s1 (i:Int) y.length (i1:Int)).bind fun e3=>
    (xj s1 (i:Int) y.length (IntKind.i64.wrap ((i1:Int)-(1:Int)))).bind fun e4=>
    if(e3 !=e4)then
    ((xj s1 (i:Int) y.length (i1:Int)).bind fun e5=>
    (cN s1 k).bind fun e6=>
    (some (s1.set k.toNat e5)).bind fun st=>
    (dX i y k2) (i1+1) st (IntKind.i64.wrap (k+(1:Int))))
    else
    ((dX i y k2) (i1+1) s1 k)

def eP(s:(List Int)):List Int→Nat→Option (List Int)
  |[],i=>
    some s
  |e::tl,i=>
    (cN s (IntKind.i64.wrap ((i:Int)-(1:Int)))).bind fun e1=>
    if(e==e1)then
    ((dD s (i:Int) (s.length:Int)).bind fun y=>
    dX i y (y.length-1) 1 s (i:Int))
    else
    ((eP s tl) (i+1))

def jR(s:(List Int)):Option (List Int):=
 if(decide ((s.length:Int)<(2:Int)))then
 (some s)
 else
 (eP s (s.drop (1)) 1)

def mH:List aX→(List Int)→Option (List Int)
  |[],out=>
    (D0 out).bind fun uu=>
    (jR uu).bind fun r1=>
    some r1
  |e1::tl,out=>
    if(e1.Tag==(2:Int))then
    ((app out ([e1.Col])).bind fun out1=>
    (mH tl) out1)
    else
    ((mH tl) out)

def sD(e:br):Option (List Int):=
 (pe e).bind fun r=>
 if(r !=(0:Int))then
 (some ([]:List Int))
 else
 (mH e.Nodes ([]:List Int))

def cu(s:(List Int)):Option (List Int):=
 (app ([]:List Int) s).bind fun x=>
 some x

def oR(stack:(List Int))(k:Int):Option ((List Int)×(List Int)):=
 (dD stack (IntKind.i64.wrap ((stack.length:Int)-k)) (stack.length:Int)).bind fun y=>
 (cu y).bind fun r=>
 (dD stack 0 (IntKind.i64.wrap ((stack.length:Int)-k))).bind fun y1=>
 some (r,y1)

def lP(bad:Int)(stack:List Int):Option (Int×Int):=
  if(bad !=(0:Int))then
  (some ((0:Int),bad))
  else
  ((cN stack (0:Int)).bind fun e1=>
  some (e1,(0:Int)))

def hU(do1:(aX→(List Int)→Option (Int×Int))):List aX→Int→(List Int)→Option (Int×Int)
  |[],bad1,stack1=>
    lP bad1 stack1
  |e2::tl,bad1,stack1=>
    (pc e2.Tag).bind fun r=>
    (oR stack1 r).bind fun r1=>
    (do1 e2 r1.1).bind fun r2=>
    if(r2.2 !=(0:Int))then
    (lP r2.2 r1.2)
    else
    ((app r1.2 ([r2.1])).bind fun l2=>
    (hU do1 tl) bad1 l2)

def oI(e:br)(do1:(aX→(List Int)→Option (Int×Int))):Option (Int×Int):=
 hU do1 e.Nodes (0:Int) ([]:List Int)

def rJ(tag:Int):Option Bool:=
 some ((tag==(4:Int))||((decide ((12:Int)≤tag))&&(decide (tag≤(15:Int)))))

def lR(kinds:(List Int))(n:aX):List Int→Int→Option (Int×Int)
  |[],own=>
    if(n.Tag==(1:Int))then
    (some (n.Value.Kind,(0:Int)))
    else
    (if(n.Tag==(2:Int))then
    ((cN kinds n.Col).bind fun e1=>
    some (e1,(0:Int)))
    else
    ((rJ n.Tag).bind fun r=>
    if r then
    (if((own==(-1:Int))||((own !=(0:Int))&&(own !=(2:Int))))then
    (some ((0:Int),(201:Int)))
    else
    (some ((2:Int),(0:Int))))
    else
    (if(((n.Tag==(5:Int))||(n.Tag==(22:Int)))||(n.Tag==(23:Int)))then
    (if((own==(-1:Int))||((own !=(0:Int))&&(own !=(1:Int))))then
    (some ((0:Int),(201:Int)))
    else
    (some ((1:Int),(0:Int))))
    else
    (if((own==(-1:Int))||((own !=(0:Int))&&(own !=own)))then
    (some ((0:Int),(201:Int)))
    else
    (some ((1:Int),(0:Int)))))))
  |e::tl,own=>
    if((e==(0:Int))||(e==own))then
    ((lR kinds n tl) own)
    else
    (if(own==(0:Int))then
    ((lR kinds n tl) e)
    else
    ((lR kinds n tl) (-1:Int)))

def jt(kinds:(List Int))(n:aX)(l:(List Int)):Option (Int×Int):=
 lR kinds n l (0:Int)

def mG(e:br)(kinds:(List Int)):List Int→Option (Int×Int)
 |[]=>
  (oI e (jt kinds)).bind fun r2=>
  some (r2.1,r2.2)
 |e2::tl1=>
  if(decide ((kinds.length:Int)≤e2))then
  (some ((0:Int),(2:Int)))
  else
  ((mG e kinds tl1))

def p9(e:br)(kinds:(List Int)):List Int→Option (Int×Int)
 |[]=>
  (sD e).bind fun r1=>
  mG e kinds r1
 |e1::tl=>
  if((decide (e1<(0:Int)))||(decide ((3:Int)<e1)))then
  (some ((0:Int),(2:Int)))
  else
  ((p9 e kinds tl))

def sy(e:br)(kinds:(List Int)):Option (Int×Int):=
 (pe e).bind fun r=>
 if(r !=(0:Int))then
 (some ((0:Int),r))
 else
 (p9 e kinds kinds)

def rh(e:br)(kinds:(List Int)):Option Bool:=
 (sy e kinds).bind fun r=>
 some ((r.2==(0:Int))&&((r.1==(1:Int))||(r.1==(0:Int))))

def gS(c:aE)(n:am):Option ((List Int)×Bool):=
 (cN c.kinds n.A).bind fun e=>
 (cN c.kinds n.B).bind fun e1=>
 (iP ([e,e1])).bind fun r=>
 (rh n.Cond r).bind fun r1=>
 some (r,r1)

def fT(c:aE)(n:am):Option ((List Int)×Bool):=
 (cN c.kinds n.A).bind fun e=>
 (rh n.Cond e).bind fun r=>
 some (e,r)

def pW(kinds:(List Int))(c:Int):Option Bool:=
 some ((decide (c<(0:Int)))||(decide ((kinds.length:Int)≤c)))

def se(l:(List Int))(kinds:(List Int)):Option Bool:=
 (cx l (pW kinds)).bind fun r=>
 some (!r)

def si(r:Int×Int)(x:Bool):Option (Int×Bool):=
 if x then
 (some (r.1,(r.2==(0:Int))))
 else
 (some ((0:Int),false))

def xX(a1:ea)(kinds:(List Int)):Option (Int×Bool):=
  if(a1.Tag==(1:Int))then
  (some ((2:Int),((a1.Arg.Nodes.length:Int)==(0:Int))))
  else
  ((sy a1.Arg kinds).bind fun r=>
  if(a1.Tag==(2:Int))then
  (some ((2:Int),(r.2==(0:Int))))
  else
  (if(a1.Tag==(3:Int))then
  (some ((2:Int),((r.2==(0:Int))&&((r.1==(2:Int))||(r.1==(0:Int))))))
  else
  (if(a1.Tag==(4:Int))then
  (si r (a1.Tag==(4:Int)))
  else
  (si r (a1.Tag==(5:Int))))))

def eY(e:(List Int)):List ea→(List Int)→Bool→Option ((List Int)×Bool)
 |[],out1,ok=>
  some (out1,ok)
 |e2::tl1,out1,ok=>
  (xX e2 e).bind fun r1=>
  (app out1 ([r1.1])).bind fun out2=>
  (eY e tl1) out2 (ok&&r1.2)

def gh(n:am)(e:(List Int))(t:Bool):List Int→(List Int)→Option ((List Int)×Bool)
 |[],out=>
  eY e n.Aggs out t
 |e1::tl,out=>
  (cN e e1).bind fun e3=>
  (app out ([e3])).bind fun out3=>
  (gh n e t tl) out3

def gx(c:aE)(n:am):Option ((List Int)×Bool):=
  (cN c.kinds n.A).bind fun e=>
  (if(((decide ((n.Keys.length:Int)≤(3:Int)))&&(decide ((n.Aggs.length:Int)≤(12:Int))))&&(decide ((0:Int)<(IntKind.i64.wrap ((n.Keys.length:Int)+(n.Aggs.length:Int))))))then((se n.Keys e).bind fun r=>
  some r)else some false).bind fun t=>
  if(!t)then
  (some ([],false))
  else
  (gh n e t n.Keys ([]:List Int))

def fm(c:aE)(n:am):List br→(List Int)→Bool→Option ((List Int)×Bool)
 |[],out,ok=>
  some (out,ok)
 |e::tl,out,ok=>
  (cN c.kinds n.A).bind fun e1=>
  (sy e e1).bind fun r=>
  (app out ([r.1])).bind fun out1=>
  (fm c n tl) out1 (ok&&(r.2==(0:Int)))

def fy(c:aE)(n:am):Option ((List Int)×Bool):=
 fm c n n.Items ([]:List Int) ((decide ((1:Int)≤(n.Items.length:Int)))&&(decide ((n.Items.length:Int)≤(16:Int))))

def eZ(c:aE)(n:am):Option ((List Int)×Bool):=
 (cN c.kinds n.A).bind fun e=>
 some (e,true)

def iv(nx:Nat→(List Int)→Bool→Option ((List Int)×Bool))(i:Nat)(e2:Int)(ok:Bool)(out1:List Int):Option ((List Int)×Bool):=
  (if ok then((cN out1 (i:Int)).bind fun e3=>
  some ((e3==e2)||(e2==(0:Int))))else some false).bind fun t=>
  nx (i+1) out1 t

def dF:List Int→Nat→(List Int)→Bool→Option ((List Int)×Bool)
  |[],i,out,ok=>
    some (out,ok)
  |e2::tl,i,out,ok=>
    (cN out (i:Int)).bind fun e4=>
    if(e4==(0:Int))then
    ((some (out.set (i:Int).toNat e2)).bind fun st=>
    iv (dF tl) i e2 ok st)
    else
    (iv (dF tl) i e2 ok out)

def gv(c:aE)(n:am):Option ((List Int)×Bool):=
  (cN c.kinds n.A).bind fun e=>
  (cN c.kinds n.B).bind fun e1=>
  if((e.length:Int) !=(e1.length:Int))then
  (some ([],false))
  else
  ((cu e).bind fun r=>
  dF e1 0 r true)

def dH(f:(gL→Option Bool)):List gL→Nat→Option Int
 |[],i=>
  some (-1:Int)
 |e::tl,i=>
  (f e).bind fun r=>
  if r then
  (some (i:Int))
  else
  ((dH f tl) (i+1))

def ik(s:(List gL))(f:(gL→Option Bool)):Option Int:=
 dH f s 0

def eF(s:(List gL))(f:(gL→Option Bool)):Option Bool:=
 (ik s f).bind fun r=>
 some (decide ((0:Int)≤r))

def kH(in1:(List Int))(o:gL):Option Bool:=
 some ((decide (o.Col<(0:Int)))||(decide ((in1.length:Int)≤o.Col)))

def gw(c:aE)(n:am):Option ((List Int)×Bool):=
  (cN c.kinds n.A).bind fun e=>
  (if(decide ((n.Order.length:Int)≤(3:Int)))then((eF n.Order (kH e)).bind fun r=>
  some (!r))else some false).bind fun t=>
  some (e,(((t&&(decide ((-1:Int)≤n.Limit)))&&(decide (n.Limit≤(2147483647:Int))))&&((c.kinds.length:Int)==(IntKind.i64.wrap ((c.Logic.Nodes.length:Int)-(1:Int))))))

def s4(n:am):Option Bool:=
 some (((((((((n.Table==(0:Int))&&((n.Kinds.length:Int)==(0:Int)))&&(!n.Left))&&((n.Cond.Nodes.length:Int)==(0:Int)))&&((n.Keys.length:Int)==(0:Int)))&&((n.Aggs.length:Int)==(0:Int)))&&((n.Items.length:Int)==(0:Int)))&&((n.Order.length:Int)==(0:Int)))&&(n.Limit==(0:Int)))

def s5(n:am):Option am:=
  if(n.Op==(1:Int))then
  (some (am.mk n.Op n.A n.B (0:Int) ([]) n.Left n.Cond n.Keys n.Aggs n.Items n.Order n.Limit))
  else
  (if(n.Op==(2:Int))then
  (some (am.mk n.Op n.A n.B n.Table n.Kinds false (⟨[]⟩:br) n.Keys n.Aggs n.Items n.Order n.Limit))
  else
  (if(n.Op==(3:Int))then
  (some (am.mk n.Op n.A n.B n.Table n.Kinds n.Left (⟨[]⟩:br) n.Keys n.Aggs n.Items n.Order n.Limit))
  else
  (if(n.Op==(4:Int))then
  (some (am.mk n.Op n.A n.B n.Table n.Kinds n.Left n.Cond ([]) ([]) n.Items n.Order n.Limit))
  else
  (if(n.Op==(5:Int))then
  (some (am.mk n.Op n.A n.B n.Table n.Kinds n.Left n.Cond n.Keys n.Aggs ([]) n.Order n.Limit))
  else
  (if(n.Op==(8:Int))then
  (some (am.mk n.Op n.A n.B n.Table n.Kinds n.Left n.Cond n.Keys n.Aggs n.Items ([]) (0:Int)))
  else
  (some n))))))

def pX(x:Bool):Option Int:=
 if x then
 (some (2:Int))
 else
 (some (1:Int))

def tX(op:Int):Option Int:=
  if(op==(1:Int))then
  (some (0:Int))
  else
  (if(op==(2:Int))then
  (pX (op==(2:Int)))
  else
  (pX (op==(7:Int))))

def jI(c:aE)(i:Int):Option (Int×Bool):=
  (cN c.Logic.Nodes i).bind fun e=>
  (tX e.Op).bind fun r=>
  if(r==(0:Int))then
  (some (i,((e.A==(-1:Int))&&(e.B==(-1:Int)))))
  else
  (if(r==(1:Int))then
  (if(((e.A !=(IntKind.i64.wrap (i-(1:Int))))||(e.B !=(-1:Int)))||(i==(0:Int)))then
  (some ((0:Int),false))
  else
  ((cN c.first e.A).bind fun e1=>
  some (e1,true)))
  else
  ((if(!((e.B !=(IntKind.i64.wrap (i-(1:Int))))||(i==(0:Int))))then((cN c.first e.B).bind fun e2=>
  some (e.A !=(IntKind.i64.wrap (e2-(1:Int)))))else some true).bind fun t=>
  if(t||(decide (e.A<(0:Int))))then
  (some ((0:Int),false))
  else
  ((cN c.first e.A).bind fun e3=>
  some (e3,true))))

def gi{Sg:Type}(yld:(Int×Bool)→Sg→Option (Bool×Sg))(nx:Nat→Sg→aE→Option (Sg×aE))(i:Nat)(s1:Sg)(ok1:Bool)(kinds:(List Int))(ob2:aE):Option (Sg×aE):=
 (app ob2.kinds ([kinds])).bind fun l6=>
 (yld ((i:Int),(ok1&&(decide ((kinds.length:Int)≤(16:Int))))) s1).bind fun r2=>
 if((!r2.1)||(!(ok1&&(decide ((kinds.length:Int)≤(16:Int))))))then
 (some (r2.2,({ob2 with kinds:=l6}:aE)))
 else
 (nx (i+1) r2.2 ({ob2 with kinds:=l6}:aE))

def d5{Sg:Type}(yld:(Int×Bool)→Sg→Option (Bool×Sg))(nx:Nat→Sg→aE→Option (Sg×aE))(i:Nat)(e2:am)(s1:Sg)(ok:Bool)(ob1:aE):Option (Sg×aE):=
  if ok then
  ((((o6 (du (du (du (du (du (du (du (du ([]:List (Int×(aE→am→Option (((List Int)×Bool)×aE)))) (1:Int) (fun(mc:aE) (mx:am)=>(eX mc mx).map fun mr=>(mr,mc))) (2:Int) (fun(mc:aE) (mx:am)=>(gS mc mx).map fun mr=>(mr,mc))) (3:Int) (fun(mc:aE) (mx:am)=>(fT mc mx).map fun mr=>(mr,mc))) (4:Int) (fun(mc:aE) (mx:am)=>(gx mc mx).map fun mr=>(mr,mc))) (5:Int) (fun(mc:aE) (mx:am)=>(fy mc mx).map fun mr=>(mr,mc))) (6:Int) (fun(mc:aE) (mx:am)=>(eZ mc mx).map fun mr=>(mr,mc))) (7:Int) (fun(mc:aE) (mx:am)=>(gv mc mx).map fun mr=>(mr,mc))) (8:Int) (fun(mc:aE) (mx:am)=>(gw mc mx).map fun mr=>(mr,mc))) e2.Op).getD (fun _ _=>none)) ob1 (e2)).bind fun r3=>
  gi yld nx i s1 r3.1.2 r3.1.1 r3.2)
  else
  (gi yld nx i s1 ok ([]) ob1)

def bE{Sg:Type}(yld:(Int×Bool)→Sg→Option (Bool×Sg)):List am→Nat→Sg→aE→Option (Sg×aE)
  |[],i,s1,ob=>
    some (s1,ob)
  |e2::tl,i,s1,ob=>
    (if((o6 (du (du (du (du (du (du (du (du ([]:List (Int×(aE→am→Option (((List Int)×Bool)×aE)))) (1:Int) (fun(mc:aE) (mx:am)=>(eX mc mx).map fun mr=>(mr,mc))) (2:Int) (fun(mc:aE) (mx:am)=>(gS mc mx).map fun mr=>(mr,mc))) (3:Int) (fun(mc:aE) (mx:am)=>(fT mc mx).map fun mr=>(mr,mc))) (4:Int) (fun(mc:aE) (mx:am)=>(gx mc mx).map fun mr=>(mr,mc))) (5:Int) (fun(mc:aE) (mx:am)=>(fy mc mx).map fun mr=>(mr,mc))) (6:Int) (fun(mc:aE) (mx:am)=>(eZ mc mx).map fun mr=>(mr,mc))) (7:Int) (fun(mc:aE) (mx:am)=>(gv mc mx).map fun mr=>(mr,mc))) (8:Int) (fun(mc:aE) (mx:am)=>(gw mc mx).map fun mr=>(mr,mc))) e2.Op).isSome)then((s5 e2).bind fun r=>
    (s4 r).bind fun r1=>
    some r1)else some false).bind fun t=>
    if t then
    ((jI ob (i:Int)).bind fun r4=>
    (app ob.first ([r4.1])).bind fun l7=>
    d5 yld (bE yld tl) i e2 s1 r4.2 ({ob with first:=l7}:aE))
    else
    (d5 yld (bE yld tl) i e2 s1 t ob)

def lA{Sg:Type}(c:aE)(yld:(Int×Bool)→Sg→Option (Bool×Sg))(s:Sg):Option (Sg×aE):=
 bE yld c.Logic.Nodes 0 s c

def pY(c:aE):Option (OW (Int×Bool) aE):=
 some (fun _=>lA c)

def oG(x:Int×Bool)(x1:Bool)(x2:Int)(p:Bool):Option (Option Nat×(Bool×Int×Bool)):=
 if(!x.2)then
 (some (some 0,(false,x.1,true)))
 else
 (some (none,(x1,x2,p)))

def o7(l:bN):Option (aE×Int×Bool):=
  if((decide ((l.Nodes.length:Int)<(1:Int)))||(decide ((60:Int)<(l.Nodes.length:Int))))then
  (some ((⟨l,[],[]⟩:aE),(0:Int),false))
  else
  ((pY (⟨l,[],[]⟩:aE)).bind fun it=>
  (it (Option Nat×(Bool×Int×Bool)) (wp (fun x s=>oG x s.1 s.2.1 s.2.2)) (none,(false,(0:Int),false))).bind fun r=>
  if r.1.1.isNone then
  ((cN r.2.first (IntKind.i64.wrap ((l.Nodes.length:Int)-(1:Int)))).bind fun e=>
  some (r.2,(IntKind.i64.wrap ((l.Nodes.length:Int)-(1:Int))),(e==(0:Int))))
  else
  ((isT r.1.2.2.2).bind fun _=>
  some (r.2,r.1.2.2.1,r.1.2.1)))

def pu(l:bN):Option (Int×Int):=
 (o7 l).bind fun r=>
 if(!r.2.2)then
 (some (r.2.1,(230:Int)))
 else
 (some ((0:Int),(0:Int)))

def lT(kinds:(List Int))(nx:Option Bool):List ac→Nat→Option Bool
  |[],i1=>
    nx
  |e1::tl1,i1=>
    (kY e1).bind fun r=>
    (if(!(r !=(0:Int)))then((if(e1.Kind !=(0:Int))then((cN kinds (i1:Int)).bind fun e2=>
    some (e1.Kind !=e2))else some false).bind fun t1=>
    some t1)else some true).bind fun t=>
    if t then
    (some false)
    else
    ((lT kinds nx tl1) (i1+1))

def lU(kinds:(List Int)):List (List ac)→Option Bool
 |[]=>
  some true
 |e::tl=>
  if((e.length:Int) !=(kinds.length:Int))then
  (some false)
  else
  (lT kinds (lU kinds tl) e 0)

def rn(rows:(List (List ac)))(kinds:(List Int)):Option Bool:=
 if(decide ((12:Int)<(rows.length:Int)))then
 (some false)
 else
 (lU kinds rows)

def nY(b:eD):List am→Option Bool
  |[]=>
    some true
  |e::tl=>
    (if(e.Op==(1:Int))then((if(!(decide ((b.Tables.length:Int)≤e.Table)))then((cN b.Tables e.Table).bind fun e1=>
    (rn e1 e.Kinds).bind fun r1=>
    some (!r1))else some true).bind fun t1=>
    some t1)else some false).bind fun t=>
    if t then
    (some false)
    else
    ((nY b tl))

def ug(l:bN)(b:eD):Option Bool:=
 (pu l).bind fun r=>
 if(r.2 !=(0:Int))then
 (some false)
 else
 (nY b l.Nodes)

def pt(l:bN):Option ((List Int)×Int):=
  (o7 l).bind fun r=>
  if(!r.2.2)then
  (some ([],(230:Int)))
  else
  ((cN r.1.kinds r.2.1).bind fun e=>
  (cu e).bind fun r1=>
  some (r1,(0:Int)))

def kS(r:cT)(n:am):Option ((List (List ac))×Int):=
 (cN r.Base.Tables n.Table).bind fun e=>
 some (e,(0:Int))

def im(s:List ac):Option (List ac):=
 some s

def io(n:Int):Option (List ac):=
  if(decide ((0:Int)<(IntKind.i64.wrap (n-(IntKind.i64.wrap ((0:Int)-(0:Int)))))))then
  ((Wj (IntKind.i64.wrap (n-(IntKind.i64.wrap ((0:Int)-(0:Int)))))).bind fun _=>
  (nC (IntKind.i64.wrap (n-(IntKind.i64.wrap ((0:Int)-(0:Int))))) (⟨(0:Int),(0:Int),(0:Int),[]⟩:ac)).bind fun mk=>
  (dD mk 0 (0:Int)).bind fun y=>
  im y)
  else
  (im ([]:List ac))

def gz(n:Int):Option (List ac):=
 if(decide (n<(0:Int)))then
 (none)
 else
 (io n)

def eU:List (List ac)→(List ac)→Option (List ac)
 |[],newslice=>
  some newslice
 |e1::tl1,newslice=>
  (app newslice e1).bind fun newslice1=>
  (eU tl1) newslice1

def eV(slices:(List (List ac))):List (List ac)→Int→Option (List ac)
 |[],size=>
  (gz size).bind fun r=>
  eU slices r
 |e::tl,size=>
  if(decide ((IntKind.i64.wrap (size+(e.length:Int)))<(0:Int)))then
  (none)
  else
  ((eV slices tl) (IntKind.i64.wrap (size+(e.length:Int))))

def dy(slices:(List (List ac))):Option (List ac):=
 eV slices slices (0:Int)

def fK{Sg:Type}(yld:(Int×(List ac))→Sg→Option (Bool×Sg))(nx:Nat→Sg→Option Sg)(i:Nat)(e2:(List ac)):List (List ac)→Sg→Option Sg
 |[],s2=>
  nx (i+1) s2
 |e4::tl1,s2=>
  (dy ([e2,e4])).bind fun r=>
  (yld ((i:Int),r) s2).bind fun r1=>
  if(!r1.1)then
  (some r1.2)
  else
  ((fK yld nx i e2 tl1) r1.2)

def dM{Sg:Type}(b:(List (List ac)))(yld:(Int×(List ac))→Sg→Option (Bool×Sg)):List (List ac)→Nat→Sg→Option Sg
 |[],i,s1=>
  some s1
 |e2::tl,i,s1=>
  fK yld (dM b yld tl) i e2 b s1

def lS{Sg:Type}(a1:(List (List ac)))(b:(List (List ac)))(yld:(Int×(List ac))→Sg→Option (Bool×Sg))(s:Sg):Option Sg:=
 dM b yld a1 0 s

def vY(a1:(List (List ac)))(b:(List (List ac))):Option (It (Int×(List ac))):=
 some (fun _=>lS a1 b)

def lv(do1:(ac→ac→Option (ac×Int)))(a1:ac)(b:ac):Option (ac×Int):=
 (do1 b a1).bind fun r=>
 some (r.1,r.2)

def CK(do1:(ac→ac→Option (ac×Int))):Option (ac→ac→Option (ac×Int)):=
 some (lv do1)

def oU:Option ac:=
 some (⟨(0:Int),(0:Int),(0:Int),[]⟩:ac)

def ut(v:ac):Option ac:=
 some v

def oV(b:Bool):Option ac:=
 if b then
 (ut (ac.mk (⟨(1:Int),(0:Int),(0:Int),[]⟩:ac).Kind (1:Int) (⟨(1:Int),(0:Int),(0:Int),[]⟩:ac).U (⟨(1:Int),(0:Int),(0:Int),[]⟩:ac).S))
 else
 (ut (⟨(1:Int),(0:Int),(0:Int),[]⟩:ac))

def jl:List ac→Option Int
 |[]=>
  some (0:Int)
 |e::tl=>
  (kY e).bind fun r=>
  if(r !=(0:Int))then
  (some r)
  else
  ((jl tl))

def ph(l:(List ac)):Option Int:=
 jl l

def nk(p:Int):Option Bool:=
 some (p !=p)

def iJ(p:Int)(y:Int):Option Int:=
  (nk p).bind fun r=>
  (nk y).bind fun r1=>
  if r then
  (if r1 then
  (some (0:Int))
  else
  (some (-1:Int)))
  else
  (if r1 then
  (some (1:Int))
  else
  (if(decide (p<y))then
  (some (-1:Int))
  else
  (if(decide (y<p))then
  (some (1:Int))
  else
  (some (0:Int)))))

def fX:List Int→Option Int
 |[]=>
  some (0:Int)
 |e::tl=>
  if(e !=(0:Int))then
  (some e)
  else
  ((fX tl))

def mK(vals:(List Int)):Option Int:=
 fX vals

def kT(p:Int):Option Bool:=
 some (p !=p)

def gB(p:Int)(y:Int):Option Int:=
  (kT p).bind fun r=>
  (kT y).bind fun r1=>
  if r then
  (if r1 then
  (some (0:Int))
  else
  (some (-1:Int)))
  else
  (if r1 then
  (some (1:Int))
  else
  (if(decide (p<y))then
  (some (-1:Int))
  else
  (if(decide (y<p))then
  (some (1:Int))
  else
  (some (0:Int)))))

def i6(a1:wB)(b:wB):Option Int:=
 some (VH a1 b)

def oO(a1:wB)(b:wB):Option Int:=
 (i6 a1 b).bind fun r=>
 some r

def li(a1:ac)(b:ac):Option Int:=
  (ma a1).bind fun r=>
  (if(!(!r))then((ma b).bind fun r1=>
  some (!r1))else some true).bind fun t=>
  if t then
  (some (0:Int))
  else
  ((iJ a1.Kind b.Kind).bind fun r2=>
  (gB a1.N b.N).bind fun r3=>
  (oO a1.S b.S).bind fun r4=>
  (mK ([r2,r3,r4])).bind fun r5=>
  some r5)

def qp(a1:ac)(b:ac)(is1:(Int→Option Bool)):Option (ac×Int):=
  (ph ([a1,b])).bind fun r=>
  if(r !=(0:Int))then
  (some ((⟨(0:Int),(0:Int),(0:Int),[]⟩:ac),r))
  else
  (if(((a1.Kind==(4:Int))||(b.Kind==(4:Int)))||((!((a1.Kind==(0:Int))||(b.Kind==(0:Int))))&&(a1.Kind !=b.Kind)))then
  (some ((⟨(0:Int),(0:Int),(0:Int),[]⟩:ac),(2:Int)))
  else
  (if((a1.Kind==(0:Int))||(b.Kind==(0:Int)))then
  ((oU).bind fun r1=>
  some (r1,(0:Int)))
  else
  ((li a1 b).bind fun r2=>
  (is1 r2).bind fun r3=>
  (oV r3).bind fun r4=>
  some (r4,(0:Int)))))

def Ap(c:Int):Option Bool:=
 some (decide (c<(0:Int)))

def nE(a1:ac)(b:ac):Option (ac×Int):=
 (qp a1 b Ap).bind fun r=>
 some (r.1,r.2)

def mF(do1:(ac→Option (ac×Int)))(a1:ac)(x:ac):Option (ac×Int):=
 (do1 a1).bind fun r=>
 some (r.1,r.2)

def zM(do1:(ac→Option (ac×Int))):Option (ac→ac→Option (ac×Int)):=
 some (mF do1)

def n9(n:Int):Option ac:=
 some (⟨(2:Int),n,(0:Int),[]⟩:ac)

def jU(kind:Int):List ac→Int→Option Int
  |[],e=>
    some e
  |e1::tl,e=>
    (kY e1).bind fun r=>
    if(r !=(0:Int))then
    (some (120:Int))
    else
    (if((e1.Kind !=(0:Int))&&(e1.Kind !=kind))then
    ((jU kind tl) (2:Int))
    else
    ((jU kind tl) e))

def px(kind:Int)(l:(List ac)):Option Int:=
 jU kind l (0:Int)

def ro(a1:ac)(b:ac)(to1:(Int→Int→Option (Int×Bool))):Option (ac×Int):=
  (px (2:Int) ([a1,b])).bind fun r=>
  if(r !=(0:Int))then
  (some ((⟨(0:Int),(0:Int),(0:Int),[]⟩:ac),r))
  else
  (if((a1.Kind==(0:Int))||(b.Kind==(0:Int)))then
  ((oU).bind fun r1=>
  some (r1,(0:Int)))
  else
  ((to1 a1.N b.N).bind fun r2=>
  if(!r2.2)then
  (some ((⟨(0:Int),(0:Int),(0:Int),[]⟩:ac),(140:Int)))
  else
  ((n9 r2.1).bind fun r3=>
  some (r3,(0:Int)))))

def py(a1:Int)(b:Int):Option (Int×Bool):=
 some ((IntKind.i64.wrap (a1-b)),decide ((0:Int)≤(fi .and .i64 (fi .xor .i64 a1 b) (fi .xor .i64 a1 (IntKind.i64.wrap (a1-b))))))

def vg(a1:ac)(b:ac):Option (ac×Int):=
 (ro a1 b py).bind fun r=>
 some (r.1,r.2)

def yh(a1:ac):Option (ac×Int):=
 (n9 (0:Int)).bind fun r=>
 (vg r a1).bind fun r1=>
 some (r1.1,r1.2)

def wP(v:ac):Option Int:=
 if(v.Kind==(0:Int))then
 (some (1:Int))
 else
 (some (IntKind.i64.wrap ((2:Int)*v.N)))

def lE(to1:((List Int)→Option Int)):List ac→(List Int)→ac→Option (ac×Int)
  |[],n,x=>
    (to1 n).bind fun r1=>
    (cN gv2 r1).bind fun e1=>
    some (e1,(0:Int))
  |e::tl,n,x=>
    if(decide ((1:Int)<e.Kind))then
    (some ((⟨(0:Int),(0:Int),(0:Int),[]⟩:ac),(2:Int)))
    else
    ((wP e).bind fun r2=>
    (app n ([r2])).bind fun n1=>
    (lE to1 tl) n1 x)

def nD(to1:((List Int)→Option Int))(l:(List ac)):Option (ac×Int):=
 (ph l).bind fun r=>
 if(r !=(0:Int))then
 (some ((⟨(0:Int),(0:Int),(0:Int),[]⟩:ac),r))
 else
 (lE to1 l ([]:List Int) (⟨(0:Int),(0:Int),(0:Int),[]⟩:ac))

def Cv(l:(List Int)):Option Int:=
 (cN l (0:Int)).bind fun e=>
 some (IntKind.i64.wrap ((2:Int)-e))

def qq(a1:ac):Option (ac×Int):=
 (nD Cv ([a1])).bind fun r=>
 some (r.1,r.2)

def nT(is1:Bool)(a1:ac)(x:ac):Option (ac×Int):=
 (oV ((a1.Kind==(0:Int))==is1)).bind fun r=>
 some (r,(0:Int))

def BY(is1:Bool):Option (ac→ac→Option (ac×Int)):=
 some (nT is1)

def rp(a1:Int)(b:Int):Option (Int×Bool):=
 some ((IntKind.i64.wrap (a1+b)),decide ((0:Int)≤(fi .and .i64 (fi .xor .i64 a1 (IntKind.i64.wrap (a1+b))) (fi .xor .i64 b (IntKind.i64.wrap (a1+b))))))

def Cc(a1:ac)(b:ac):Option (ac×Int):=
 (ro a1 b rp).bind fun r=>
 some (r.1,r.2)

def mU(p:Int)(y:Int):Option (Int×Int):=
 some ((IntKind.u64.wrap ((IntKind.u64.wrap ((IntKind.u64.wrap (((p).fdiv (2^(min (Int.toNat (32:Int)) IntKind.u64.bits)))*((y).fdiv (2^(min (Int.toNat (32:Int)) IntKind.u64.bits)))))+(((IntKind.u64.wrap ((IntKind.u64.wrap (((p).fdiv (2^(min (Int.toNat (32:Int)) IntKind.u64.bits)))*(fi .and .u64 y (4294967295:Int))))+(((IntKind.u64.wrap ((fi .and .u64 p (4294967295:Int))*(fi .and .u64 y (4294967295:Int))))).fdiv (2^(min (Int.toNat (32:Int)) IntKind.u64.bits)))))).fdiv (2^(min (Int.toNat (32:Int)) IntKind.u64.bits)))))+(((IntKind.u64.wrap ((fi .and .u64 (IntKind.u64.wrap ((IntKind.u64.wrap (((p).fdiv (2^(min (Int.toNat (32:Int)) IntKind.u64.bits)))*(fi .and .u64 y (4294967295:Int))))+(((IntKind.u64.wrap ((fi .and .u64 p (4294967295:Int))*(fi .and .u64 y (4294967295:Int))))).fdiv (2^(min (Int.toNat (32:Int)) IntKind.u64.bits))))) (4294967295:Int))+(IntKind.u64.wrap ((fi .and .u64 p (4294967295:Int))*((y).fdiv (2^(min (Int.toNat (32:Int)) IntKind.u64.bits)))))))).fdiv (2^(min (Int.toNat (32:Int)) IntKind.u64.bits))))),(IntKind.u64.wrap (p*y)))

def pf(n:Int):Option Int:=
 if(decide (n<(0:Int)))then
 (some (IntKind.u64.wrap (0-(IntKind.u64.wrap n))))
 else
 (some (IntKind.u64.wrap n))

def mN(u:Int)(below:Bool):Option (Int×Bool):=
 if below then
 (some ((IntKind.i64.wrap (IntKind.u64.wrap (0-u))),decide (u≤(9223372036854775808:Int))))
 else
 (some ((IntKind.i64.wrap u),decide (u≤(9223372036854775807:Int))))

def me(a1:Int)(b:Int):Option (Int×Bool):=
 (pf a1).bind fun r=>
 (pf b).bind fun r1=>
 (mU r r1).bind fun r2=>
 (mN r2.2 ((decide (a1<(0:Int))) !=(decide (b<(0:Int))))).bind fun r3=>
 some (r3.1,(r3.2&&(r2.1==(0:Int))))

def Ca(a1:ac)(b:ac):Option (ac×Int):=
 (ro a1 b me).bind fun r=>
 some (r.1,r.2)

def mf(a1:Int)(b:Int):Option (Int×Bool):=
  if(b==(0:Int))then
  (some ((0:Int),false))
  else
  ((pf a1).bind fun r=>
  (pf b).bind fun r1=>
  (nz r1).bind fun _=>
  (mN (IntKind.u64.wrap ((r).tdiv r1)) ((decide (a1<(0:Int))) !=(decide (b<(0:Int))))).bind fun r2=>
  some (r2.1,r2.2))

def Cb(a1:ac)(b:ac):Option (ac×Int):=
 (ro a1 b mf).bind fun r=>
 some (r.1,r.2)

def yQ(c:Int):Option Bool:=
 some (c==(0:Int))

def q6(a1:ac)(b:ac):Option (ac×Int):=
 (qp a1 b yQ).bind fun r=>
 some (r.1,r.2)

def th(do1:(ac→ac→Option (ac×Int)))(a1:ac)(b:ac):Option (ac×Int):=
  (do1 a1 b).bind fun r=>
  if(r.2 !=(0:Int))then
  (some (r.1,r.2))
  else
  ((qq r.1).bind fun r1=>
  some (r1.1,r1.2))

def A3(do1:(ac→ac→Option (ac×Int))):Option (ac→ac→Option (ac×Int)):=
 some (th do1)

def Cw(l:(List Int)):Option Int:=
 (cN l (0:Int)).bind fun e=>
 (cN l (1:Int)).bind fun e1=>
 some (min e e1)

def sn(a1:ac)(b:ac):Option (ac×Int):=
 (nD Cw ([a1,b])).bind fun r=>
 some (r.1,r.2)

def DO(l:(List Int)):Option Int:=
 (cN l (0:Int)).bind fun e=>
 (cN l (1:Int)).bind fun e1=>
 some (max e e1)

def uN(a1:ac)(b:ac):Option (ac×Int):=
 (nD DO ([a1,b])).bind fun r=>
 some (r.1,r.2)

def yc:Option (List (Int×(ac→ac→Option (ac×Int)))):=
 (CK nE).bind fun r=>
 (zM yh).bind fun r1=>
 (zM qq).bind fun r2=>
 (BY true).bind fun r3=>
 (BY false).bind fun r4=>
 (A3 q6).bind fun r5=>
 (A3 r).bind fun r6=>
 (A3 nE).bind fun r7=>
 some (du (du (du (du (du (du (du (du (du (du (du (du (du (du (du (du ([]:List (Int×(ac→ac→Option (ac×Int)))) (4:Int) r1) (5:Int) r2) (6:Int) r3) (7:Int) r4) (12:Int) Cc) (13:Int) vg) (14:Int) Ca) (15:Int) Cb) (16:Int) q6) (17:Int) r5) (18:Int) nE) (20:Int) r) (19:Int) r6) (21:Int) r7) (22:Int) sn) (23:Int) uN)

def fH(s:(List ac)):Option (List ac):=
 (app ([]:List ac) s).bind fun x=>
 some x

def kI(stack:(List ac))(k:Int):Option ((List ac)×(List ac)):=
 (dD stack (IntKind.i64.wrap ((stack.length:Int)-k)) (stack.length:Int)).bind fun y=>
 (fH y).bind fun r=>
 (dD stack 0 (IntKind.i64.wrap ((stack.length:Int)-k))).bind fun y1=>
 some (r,y1)

def gk(bad:Int)(stack:List ac):Option (ac×Int):=
  if(bad !=(0:Int))then
  (some ((⟨(0:Int),(0:Int),(0:Int),[]⟩:ac),bad))
  else
  ((cN stack (0:Int)).bind fun e1=>
  some (e1,(0:Int)))

def dG(do1:(aX→(List ac)→Option (ac×Int))):List aX→Int→(List ac)→Option (ac×Int)
  |[],bad1,stack1=>
    gk bad1 stack1
  |e2::tl,bad1,stack1=>
    (pc e2.Tag).bind fun r=>
    (kI stack1 r).bind fun r1=>
    (do1 e2 r1.1).bind fun r2=>
    if(r2.2 !=(0:Int))then
    (gk r2.2 r1.2)
    else
    ((app r1.2 ([r2.1])).bind fun l2=>
    (dG do1 tl) bad1 l2)

def iC(e:br)(do1:(aX→(List ac)→Option (ac×Int))):Option (ac×Int):=
 dG do1 e.Nodes (0:Int) ([]:List ac)

def qa(r1:ac×Int)(no:Int):Option (ac×Int):=
 some (r1.1,no)

def iI(r:(List ac))(do1:(List (Int×(ac→ac→Option (ac×Int)))))(n:aX)(l:(List ac)):Option (ac×Int):=
  if(n.Tag==(1:Int))then
  (some (n.Value,(0:Int)))
  else
  (if(n.Tag==(2:Int))then
  ((cN r n.Col).bind fun e=>
  some (e,(0:Int)))
  else
  ((cN l (0:Int)).bind fun e1=>
  (cN l (IntKind.i64.wrap ((l.length:Int)-(1:Int)))).bind fun e2=>
  (((o6 do1 n.Tag).getD (fun _ _=>none)) e1 e2).bind fun r1=>
  if((r1.2 !=(0:Int))&&(r1.2 !=(140:Int)))then
  (qa r1 (201:Int))
  else
  (qa r1 r1.2)))

def oj(e:br)(r:(List ac)):List Int→ac→Option (ac×Int)
  |[],x=>
    (yc).bind fun r3=>
    (iC e (iI r r3)).bind fun r4=>
    some (r4.1,r4.2)
  |e1::tl,x=>
    (if(!(decide ((r.length:Int)≤e1)))then((cN r e1).bind fun e2=>
    (ma e2).bind fun r5=>
    some (!r5))else some true).bind fun t=>
    if t then
    (some ((⟨(0:Int),(0:Int),(0:Int),[]⟩:ac),(2:Int)))
    else
    ((oj e r tl) x)

def sC(e:br)(r:(List ac)):Option (ac×Int):=
  (pe e).bind fun r1=>
  if(r1 !=(0:Int))then
  (some ((⟨(0:Int),(0:Int),(0:Int),[]⟩:ac),r1))
  else
  ((sD e).bind fun r2=>
  oj e r r2 (⟨(0:Int),(0:Int),(0:Int),[]⟩:ac))

def vB(a1:ac):Option Bool:=
 (oV true).bind fun r=>
 some (decide (a1=r))

def qb(e:br)(r:(List ac)):Option (Bool×Int):=
 (sC e r).bind fun r1=>
 (vB r1.1).bind fun r2=>
 some (r2,r1.2)

def gW(n:am)(x:Int×(List ac))(xs:List (List ac))(xs1:List Bool)(x1:Int)(x2:(List (List ac))):Option (Option Nat×(List (List ac)×List Bool×Int×(List (List ac)))):=
  (qb n.Cond x.2).bind fun r3=>
  if(r3.2 !=(0:Int))then
  (some (some 0,(xs,xs1,r3.2,[])))
  else
  (if r3.1 then
  ((cN xs1 x.1).bind fun e2=>
  (some (xs1.set x.1.toNat true)).bind fun st=>
  (app xs ([x.2])).bind fun l2=>
  some (none,(l2,st,x1,x2)))
  else
  (some (none,(xs,xs1,x1,x2))))

def gV(r:cT)(n:am)(r1:(Option Nat×(List (List ac)×List Bool×Int×(List (List ac))))×Unit):List (List ac)→Nat→(List (List ac))→Option ((List (List ac))×Int)
  |[],i2,out=>
    some (out,(0:Int))
  |e3::tl,i2,out=>
    (if n.Left then((cN r1.1.2.2.1 (i2:Int)).bind fun e4=>
    some (!e4))else some false).bind fun t=>
    if t then
    ((cN r.width n.B).bind fun e5=>
    (nC e5 (⟨(0:Int),(0:Int),(0:Int),[]⟩:ac)).bind fun mk1=>
    (dy ([e3,mk1])).bind fun r4=>
    (app out ([r4])).bind fun l7=>
    (gV r n r1 tl) (i2+1) l7)
    else
    ((gV r n r1 tl) (i2+1) out)

def jE(r:cT)(n:am):Option ((List (List ac))×Int):=
  (cN r.rows n.A).bind fun e=>
  (cN r.rows n.B).bind fun e1=>
  if(decide ((40000:Int)<(IntKind.i64.wrap ((e.length:Int)*(e1.length:Int)))))then
  (some ([],(3:Int)))
  else
  ((nC (e.length:Int) false).bind fun mk=>
  (vY e e1).bind fun it=>
  ((itU it) (Option Nat×(List (List ac)×List Bool×Int×(List (List ac)))) (wp (fun x s=>gW n x s.1 s.2.1 s.2.2.1 s.2.2.2)) (none,(([]:List (List ac)),mk,(0:Int),[]))).bind fun r1=>
  if r1.1.1.isNone then
  (gV r n r1 e 0 r1.1.2.1)
  else
  (some (r1.1.2.2.2.2,r1.1.2.2.2.1)))

def fU(n:am):List (List ac)→(List (List ac))→Option ((List (List ac))×Int)
  |[],out=>
    some (out,(0:Int))
  |e1::tl,out=>
    (qb n.Cond e1).bind fun r1=>
    if(r1.2 !=(0:Int))then
    (some ([],r1.2))
    else
    (if r1.1 then
    ((app out ([e1])).bind fun out1=>
    (fU n tl) out1)
    else
    ((fU n tl) out))

def jz(r:cT)(n:am):Option ((List (List ac))×Int):=
 (cN r.rows n.A).bind fun e=>
 fU n e ([]:List (List ac))

def jv(a1:ea):List (List ac)→(List ac)→Int→Option ((List ac)×Int)
  |[],out,fault=>
    some (out,fault)
  |e::tl,out,fault=>
    (sC a1.Arg e).bind fun r=>
    if(r.2==(140:Int))then
    ((jv a1 tl) out r.2)
    else
    (if(r.2 !=(0:Int))then
    (some ([],(2:Int)))
    else
    (if(r.1.Kind !=(0:Int))then
    ((app out ([r.1])).bind fun out1=>
    (jv a1 tl) out1 fault)
    else
    ((jv a1 tl) out fault)))

def xu(a1:ea)(rows:(List (List ac))):Option ((List ac)×Int):=
 jv a1 rows ([]:List ac) (0:Int)

def mJ(v:ac):Option Bool:=
 some (v.Kind !=(2:Int))

def cX(f:(ac→Option Bool)):List ac→Nat→Option Int
 |[],i=>
  some (-1:Int)
 |e::tl,i=>
  (f e).bind fun r=>
  if r then
  (some (i:Int))
  else
  ((cX f tl) (i+1))

def gq(s:(List ac))(f:(ac→Option Bool)):Option Int:=
 cX f s 0

def dW(s:(List ac))(f:(ac→Option Bool)):Option Bool:=
 (gq s f).bind fun r=>
 some (decide ((0:Int)≤r))

def qJ(v:ac):Option ac:=
 some (⟨(4:Int),((v.N).fdiv (2^(min (Int.toNat (63:Int)) IntKind.i64.bits))),(IntKind.u64.wrap v.N),[]⟩:ac)

def wa(s:ac)(t:ac):Option (ac×Int):=
 (KT s.U t.U (0:Int)).bind fun r=>
 (KT (IntKind.u64.wrap s.N) (IntKind.u64.wrap t.N) r.2).bind fun r1=>
 if(decide ((fi .and .i64 (fi .xor .i64 s.N (IntKind.i64.wrap r1.1)) (fi .xor .i64 t.N (IntKind.i64.wrap r1.1)))<(0:Int)))then
 (some ((⟨(0:Int),(0:Int),(0:Int),[]⟩:ac),(140:Int)))
 else
 (some ((⟨(4:Int),(IntKind.i64.wrap r1.1),r.1,[]⟩:ac),(0:Int)))

def sE(s:ac)(v:ac):Option (ac×Int):=
  (px (4:Int) ([s])).bind fun r=>
  (px (2:Int) ([v])).bind fun r1=>
  if((r==(120:Int))||(r1==(120:Int)))then
  (some ((⟨(0:Int),(0:Int),(0:Int),[]⟩:ac),(120:Int)))
  else
  (if((r !=(0:Int))||(r1 !=(0:Int)))then
  (some ((⟨(0:Int),(0:Int),(0:Int),[]⟩:ac),(2:Int)))
  else
  (if(v.Kind==(0:Int))then
  (some (s,(0:Int)))
  else
  (if(s.Kind==(0:Int))then
  ((qJ v).bind fun r2=>
  some (r2,(0:Int)))
  else
  ((qJ v).bind fun r3=>
  (wa s r3).bind fun r4=>
  some (r4.1,r4.2)))))

def yi(s:ac):Option (ac×Int):=
  (px (4:Int) ([s])).bind fun r=>
  if(r !=(0:Int))then
  (some ((⟨(0:Int),(0:Int),(0:Int),[]⟩:ac),r))
  else
  (if(s.Kind==(0:Int))then
  (some (s,(0:Int)))
  else
  ((n9 (IntKind.i64.wrap s.U)).bind fun r1=>
  (qJ r1).bind fun r2=>
  if(decide (r2=s))then
  (some (r1,(0:Int)))
  else
  (some ((⟨(0:Int),(0:Int),(0:Int),[]⟩:ac),(140:Int)))))

def mO:List ac→ac→ac→Option (ac×Int)
 |[],x,s=>
  (yi s).bind fun r1=>
  some (r1.1,r1.2)
 |e::tl,x,s=>
  (sE s e).bind fun r2=>
  if(r2.2 !=(0:Int))then
  (some (r2.1,r2.2))
  else
  ((mO tl) x r2.1)

def yj(l:(List ac)):Option (ac×Int):=
  if(decide ((1048576:Int)<(l.length:Int)))then
  (some ((⟨(0:Int),(0:Int),(0:Int),[]⟩:ac),(3:Int)))
  else
  ((oU).bind fun r=>
  mO l (⟨(0:Int),(0:Int),(0:Int),[]⟩:ac) r)

def cC(cmp:(ac→ac→Option Int)):List ac→ac→Option ac
 |[],m=>
  some m
 |e1::tl,m=>
  (cmp e1 m).bind fun r=>
  if(decide (r<(0:Int)))then
  ((cC cmp tl) e1)
  else
  ((cC cmp tl) m)

def ga(p:(List ac))(cmp:(ac→ac→Option Int)):Option ac:=
 (cN p (0:Int)).bind fun e=>
 cC cmp (p.drop (1)) e

def eS(p:(List ac))(cmp:(ac→ac→Option Int)):Option ac:=
 if(decide ((p.length:Int)<(1:Int)))then
 (none)
 else
 (ga p cmp)

def q7(v:ac):Option Bool:=
 (kY v).bind fun r=>
 some (r !=(0:Int))

def cE(f:(ac→Option Bool)):List ac→Nat→Option Int
 |[],i=>
  some (-1:Int)
 |e::tl,i=>
  (f e).bind fun r=>
  if r then
  (some (i:Int))
  else
  ((cE f tl) (i+1))

def kq(s:(List ac))(f:(ac→Option Bool)):Option Int:=
 cE f s 0

def gc(s:(List ac))(f:(ac→Option Bool)):Option Bool:=
 (kq s f).bind fun r=>
 some (decide ((0:Int)≤r))

def sr(r:(List ac)):Option Bool:=
  (if(decide ((r.length:Int)≤(16:Int)))then((gc r q7).bind fun r1=>
  some (!r1))else some false).bind fun t=>
  some t

def bH(s1:(List ac))(s2:(List ac))(cmp:(ac→ac→Option Int)):List ac→Nat→Option Int
  |[],i=>
    if(decide ((s1.length:Int)<(s2.length:Int)))then
    (some (-1:Int))
    else
    (some (0:Int))
  |e::tl,i=>
    if(decide ((s2.length:Int)≤(i:Int)))then
    (some (1:Int))
    else
    ((cN s2 (i:Int)).bind fun e1=>
    (cmp e e1).bind fun r=>
    if(r !=(0:Int))then
    (some r)
    else
    ((bH s1 s2 cmp tl) (i+1)))

def co(s1:(List ac))(s2:(List ac))(cmp:(ac→ac→Option Int)):Option Int:=
 bH s1 s2 cmp s1 0

def om(p:Int):Option Bool:=
 some (p !=p)

def mL(p:Int)(y:Int):Option Int:=
  (om p).bind fun r=>
  (om y).bind fun r1=>
  if r then
  (if r1 then
  (some (0:Int))
  else
  (some (-1:Int)))
  else
  (if r1 then
  (some (1:Int))
  else
  (if(decide (p<y))then
  (some (-1:Int))
  else
  (if(decide (y<p))then
  (some (1:Int))
  else
  (some (0:Int)))))

def oo(p:wB):Option Bool:=
 some (!(p==p))

def mM(p:wB)(y:wB):Option Int:=
  (oo p).bind fun r=>
  (oo y).bind fun r1=>
  if r then
  (if r1 then
  (some (0:Int))
  else
  (some (-1:Int)))
  else
  (if r1 then
  (some (1:Int))
  else
  (if(Op.bytesLess p y)then
  (some (-1:Int))
  else
  (if(!(Op.bytesLess p y||p==y))then
  (some (1:Int))
  else
  (some (0:Int)))))

def o0(a1:ac)(b:ac):Option Int:=
 (iJ a1.Kind b.Kind).bind fun r=>
 (gB a1.N b.N).bind fun r1=>
 (mL a1.U b.U).bind fun r2=>
 (mM a1.S b.S).bind fun r3=>
 (mK ([r,r1,r2,r3])).bind fun r4=>
 some r4

def pj(a1:(List ac))(b:(List ac)):Option Int:=
 (co a1 b o0).bind fun r=>
 some r

def pn(a1:(List ac))(b:(List ac)):Option Int:=
  (sr a1).bind fun r=>
  (if(!(!r))then((sr b).bind fun r1=>
  some (!r1))else some true).bind fun t=>
  if t then
  (some (0:Int))
  else
  ((pj a1 b).bind fun r2=>
  some r2)

def ij(a1:ac)(b:ac):Option Int:=
 (pn ([a1]) ([b])).bind fun r=>
 some r

def cD(cmp:(ac→ac→Option Int)):List ac→ac→Option ac
 |[],m=>
  some m
 |e1::tl,m=>
  (cmp e1 m).bind fun r=>
  if(decide ((0:Int)<r))then
  ((cD cmp tl) e1)
  else
  ((cD cmp tl) m)

def gb(p:(List ac))(cmp:(ac→ac→Option Int)):Option ac:=
 (cN p (0:Int)).bind fun e=>
 cD cmp (p.drop (1)) e

def eT(p:(List ac))(cmp:(ac→ac→Option Int)):Option ac:=
 if(decide ((p.length:Int)<(1:Int)))then
 (none)
 else
 (gb p cmp)

def lV(a1:ea)(rows:(List (List ac))):Option (ac×Int):=
  if(a1.Tag==(1:Int))then
  ((n9 (rows.length:Int)).bind fun r=>
  some (r,(0:Int)))
  else
  ((xu a1 rows).bind fun r1=>
  if(r1.2==(2:Int))then
  (some ((⟨(0:Int),(0:Int),(0:Int),[]⟩:ac),r1.2))
  else
  ((if(a1.Tag==(3:Int))then((dW r1.1 mJ).bind fun r2=>
  some r2)else some false).bind fun t=>
  if t then
  (some ((⟨(0:Int),(0:Int),(0:Int),[]⟩:ac),(2:Int)))
  else
  (if(r1.2 !=(0:Int))then
  (some ((⟨(0:Int),(0:Int),(0:Int),[]⟩:ac),r1.2))
  else
  (if(a1.Tag==(2:Int))then
  ((n9 (r1.1.length:Int)).bind fun r3=>
  some (r3,(0:Int)))
  else
  (if(a1.Tag==(3:Int))then
  ((yj r1.1).bind fun r4=>
  some (r4.1,r4.2))
  else
  (if((r1.1.length:Int)==(0:Int))then
  (some ((⟨(0:Int),(0:Int),(0:Int),[]⟩:ac),(0:Int)))
  else
  (if(a1.Tag==(4:Int))then
  ((eS r1.1 ij).bind fun r5=>
  some (r5,(0:Int)))
  else
  ((eT r1.1 ij).bind fun r6=>
  some (r6,(0:Int))))))))))

def pO(nx:Int→Option Int)(e:(List (List ac)))(n:Int):List (List ac)→Option Int
 |[]=>
  nx (max n (e.length:Int))
 |e1::tl1=>
  (sr e1).bind fun r=>
  if(!r)then
  (some (150:Int))
  else
  ((pO nx e n tl1))

def k6:List (List (List ac))→Int→Option Int
 |[],n=>
  if(decide ((8000:Int)<n))then
  (some (3:Int))
  else
  (some (0:Int))
 |e::tl,n=>
  pO (k6 tl) e n e

def uV(l:(List (List (List ac)))):Option Int:=
 k6 l (0:Int)

def tP(c:Int):Option Bool:=
 some (decide (c<(0:Int)))

def xM(r:(List ac))(c:Int):Option Bool:=
 some ((decide (c<(0:Int)))||(decide ((r.length:Int)≤c)))

def Dc(r:(List ac))(columns:(List Int)):Option Bool:=
  (if(decide ((columns.length:Int)≤(16:Int)))then((cx columns (xM r)).bind fun r1=>
  some (!r1))else some false).bind fun t=>
  some t

def pP(columns:(List Int)):List (List ac)→Option Int
 |[]=>
  some (0:Int)
 |e::tl=>
  (Dc e columns).bind fun r2=>
  if(!r2)then
  (some (2:Int))
  else
  ((pP columns tl))

def xN(l:(List (List ac)))(columns:(List Int)):Option Int:=
  (uV ([l])).bind fun r=>
  if(r !=(0:Int))then
  (some r)
  else
  ((if(!(decide ((16:Int)<(columns.length:Int))))then((cx columns tP).bind fun r1=>
  some r1)else some true).bind fun t=>
  if t then
  (some (2:Int))
  else
  (pP columns l))

def cv(s:(List ac)):Option (List ac):=
 (app ([]:List ac) s).bind fun x=>
 some x

def na:List (List ac)→(List (List ac))→Option (List (List ac))
 |[],out=>
  some out
 |e::tl,out=>
  (cv e).bind fun r=>
  (app out ([r])).bind fun out1=>
  (na tl) out1

def sP(l:(List (List ac))):Option (List (List ac)):=
 na l ([]:List (List ac))

def mb(r:(List ac)):List Int→(List ac)→Option (List ac)
 |[],out=>
  some out
 |e::tl,out=>
  (cN r e).bind fun e1=>
  (app out ([e1])).bind fun out1=>
  (mb r tl) out1

def nJ(r:(List ac))(columns:(List Int)):Option (List ac):=
 mb r columns ([]:List ac)

def ml(columns:(List Int))(a1:(List ac))(b:(List ac)):Option Int:=
 (nJ a1 columns).bind fun r=>
 (nJ b columns).bind fun r1=>
 (pj r r1).bind fun r2=>
 (pj a1 b).bind fun r3=>
 (mK ([r2,r3])).bind fun r4=>
 some r4

def dU(s2:(List ac)):List ac→Nat→Option Bool
 |[],i=>
  some true
 |e::tl,i=>
  (cN s2 (i:Int)).bind fun e1=>
  if(!decide (e=e1))then
  (some false)
  else
  ((dU s2 tl) (i+1))

def iX(s1:(List ac))(s2:(List ac)):Option Bool:=
 if((s1.length:Int) !=(s2.length:Int))then
 (some false)
 else
 (dU s2 s1 0)

def pm(a1:(List ac))(b:(List ac)):Option Bool:=
 (iX a1 b).bind fun r=>
 some r

def ge(columns:(List Int))(a1:(List ac))(b:(List ac)):Option Bool:=
 (nJ a1 columns).bind fun r=>
 (nJ b columns).bind fun r1=>
 (pm r r1).bind fun r2=>
 some r2

def m9{Sg:Type}(alike:((List ac)→(List ac)→Option Bool))(yld:(List (List ac))→Sg→Option (Bool×Sg))(nx:Sg→(List (List ac))→Option Sg)(s1:Sg)(x:(List (List ac))):Nat→Int→Option Sg
  |0,_=>none
  |n2+1,n1=>
    (if(decide (n1<(x.length:Int)))then((cN x (0:Int)).bind fun e2=>
    (cN x n1).bind fun e3=>
    (alike e2 e3).bind fun r=>
    some r)else some false).bind fun t=>
    if t then
    ((m9 alike yld nx s1 x n2) (IntKind.i64.wrap (n1+(1:Int))))
    else
    ((dD x 0 n1).bind fun y=>
    (yld (y) s1).bind fun r1=>
    if(!r1.1)then
    (some r1.2)
    else
    ((dD x n1 (x.length:Int)).bind fun y1=>
    nx r1.2 y1))

def jY{Sg:Type}(alike:((List ac)→(List ac)→Option Bool))(yld:(List (List ac))→Sg→Option (Bool×Sg)):Nat→Sg→(List (List ac))→Option Sg
 |0,_,_=>none
 |n+1,s1,x=>
  if(decide ((0:Int)<(x.length:Int)))then
  (m9 alike yld (jY alike yld n) s1 x gX (1:Int))
  else
  (some s1)

def vG{Sg:Type}(l:(List (List ac)))(alike:((List ac)→(List ac)→Option Bool))(yld:(List (List ac))→Sg→Option (Bool×Sg))(s:Sg):Option Sg:=
 jY alike yld gX s l

def Eg(l:(List (List ac)))(alike:((List ac)→(List ac)→Option Bool)):Option (It (List (List ac))):=
 some (fun _=>vG l alike)

def fe(s:(List (List ac))):Option (List (List ac)):=
 (app ([]:List (List ac)) s).bind fun x=>
 some x

def jZ(columns:(List Int))(x:(List (List ac)))(xs:List ic):Option (List ic):=
 (cN x (0:Int)).bind fun e=>
 (nJ e columns).bind fun r2=>
 (fe x).bind fun r3=>
 (app xs ([(⟨r2,r3⟩:ic)])).bind fun l3=>
 some l3

def sQ(l:(List (List ac)))(columns:(List Int)):Option ((List ic)×Int):=
  (xN l columns).bind fun r=>
  if(r !=(0:Int))then
  (some ([],r))
  else
  ((sP l).bind fun r1=>
  (yV (fun(x:(List ac)×(List ac))=>(ml columns) x.1 x.2) r1).bind fun uu=>
  (Eg uu (ge columns)).bind fun it=>
  (it (List ic) (CR (fun x s=>jZ columns x s)) ([]:List ic)).bind fun xs1=>
  some (xs1,(0:Int)))

def iD(nx:(List (List ac))→Option ((List (List ac))×Int))(e1:ic)(out:List (List ac)):List ea→(List ac)→Option ((List (List ac))×Int)
  |[],x=>
    (app out ([x])).bind fun out1=>
    nx out1
  |e2::tl1,x=>
    (lV e2 e1.Rows).bind fun r3=>
    if(r3.2 !=(0:Int))then
    (some ([],r3.2))
    else
    ((app x ([r3.1])).bind fun x1=>
    (iD nx e1 out tl1) x1)

def ft(n:am):List ic→(List (List ac))→Option ((List (List ac))×Int)
 |[],out=>
  some (out,(0:Int))
 |e1::tl,out=>
  (cv e1.Key).bind fun r2=>
  iD (ft n tl) e1 out n.Aggs r2

def lB(n:am)(groups:(List ic)):Option ((List (List ac))×Int):=
 ft n groups ([]:List (List ac))

def i8(r:cT)(n:am):Option ((List (List ac))×Int):=
  (cN r.rows n.A).bind fun e=>
  (sQ e n.Keys).bind fun r1=>
  if(r1.2 !=(0:Int))then
  (some ([],r1.2))
  else
  (if(((n.Keys.length:Int)==(0:Int))&&((r1.1.length:Int)==(0:Int)))then
  (lB n ([(⟨[],[]⟩:ic)]))
  else
  (lB n r1.1))

def gE(nx:(List (List ac))→Option ((List (List ac))×Int))(e1:(List ac))(out:List (List ac)):List br→(List ac)→Option ((List (List ac))×Int)
  |[],y=>
    (app out ([y])).bind fun out1=>
    nx out1
  |e2::tl1,y=>
    (sC e2 e1).bind fun r1=>
    if(r1.2 !=(0:Int))then
    (some ([],r1.2))
    else
    ((app y ([r1.1])).bind fun y1=>
    (gE nx e1 out tl1) y1)

def fC(n:am):List (List ac)→(List (List ac))→Option ((List (List ac))×Int)
 |[],out=>
  some (out,(0:Int))
 |e1::tl,out=>
  gE (fC n tl) e1 out n.Items ([]:List ac)

def i7(r:cT)(n:am):Option ((List (List ac))×Int):=
 (cN r.rows n.A).bind fun e=>
 fC n e ([]:List (List ac))

def sO(l:(List (List ac))):Option (List (List ac)):=
 (sP l).bind fun r=>
 (yV (fun(x:(List ac)×(List ac))=>pj x.1 x.2) r).bind fun uu=>
 some uu

def ce(eq:((List ac)→(List ac)→Option Bool))(i:Nat)(y:List (List ac)):Nat→Nat→(List (List ac))→Int→Option (List (List ac))
  |0,i1,s1,k=>
    (dD s1 k (s1.length:Int)).bind fun y1=>
    (some (s1.take k.toNat++List.replicate y1.length ([]))).bind fun cl=>
    (dD cl 0 k).bind fun y2=>
    some y2
  |k2+1,i1,s1,k=>
    (xj s1 (i:Int) y.length (i1:Int)).bind fun e3=>
    (xj s1 (i:Int) y.length (IntKind.i64.wrap ((i1:Int)-(1:Int)))).bind fun e4=>
    (eq e3 e4).bind fun r1=>
    if(!r1)then
    ((xj s1 (i:Int) y.length (i1:Int)).bind fun e5=>
    (cN s1 k).bind fun e6=>
    (some (s1.set k.toNat e5)).bind fun st=>
    (ce eq i y k2) (i1+1) st (IntKind.i64.wrap (k+(1:Int))))
    else
    ((ce eq i y k2) (i1+1) s1 k)

def cF(s:(List (List ac)))(eq:((List ac)→(List ac)→Option Bool)):List (List ac)→Nat→Option (List (List ac))
  |[],i=>
    some s
  |e::tl,i=>
    (cN s (IntKind.i64.wrap ((i:Int)-(1:Int)))).bind fun e1=>
    (eq e e1).bind fun r=>
    if r then
    ((dD s (i:Int) (s.length:Int)).bind fun y=>
    ce eq i y (y.length-1) 1 s (i:Int))
    else
    ((cF s eq tl) (i+1))

def eW(s:(List (List ac)))(eq:((List ac)→(List ac)→Option Bool)):Option (List (List ac)):=
 if(decide ((s.length:Int)<(2:Int)))then
 (some s)
 else
 (cF s eq (s.drop (1)) 1)

def rZ(l:(List (List ac))):Option ((List (List ac))×Int):=
  (uV ([l])).bind fun r=>
  if(r !=(0:Int))then
  (some ([],r))
  else
  ((sO l).bind fun r1=>
  (eW r1 pm).bind fun r2=>
  some (r2,(0:Int)))

def iE(r:cT)(n:am):Option ((List (List ac))×Int):=
 (cN r.rows n.A).bind fun e=>
 (rZ e).bind fun r1=>
 some (r1.1,r1.2)

def iU(s:List (List ac)):Option (List (List ac)):=
 some s

def iW(n:Int):Option (List (List ac)):=
  if(decide ((0:Int)<(IntKind.i64.wrap (n-(IntKind.i64.wrap ((0:Int)-(0:Int)))))))then
  ((Wj (IntKind.i64.wrap (n-(IntKind.i64.wrap ((0:Int)-(0:Int)))))).bind fun _=>
  (nC (IntKind.i64.wrap (n-(IntKind.i64.wrap ((0:Int)-(0:Int))))) ([])).bind fun mk=>
  (dD mk 0 (0:Int)).bind fun y=>
  iU y)
  else
  (iU ([]:List (List ac)))

def hZ(n:Int):Option (List (List ac)):=
 if(decide (n<(0:Int)))then
 (none)
 else
 (iW n)

def fF:List (List (List ac))→(List (List ac))→Option (List (List ac))
 |[],newslice=>
  some newslice
 |e1::tl1,newslice=>
  (app newslice e1).bind fun newslice1=>
  (fF tl1) newslice1

def fG(slices:(List (List (List ac)))):List (List (List ac))→Int→Option (List (List ac))
 |[],size=>
  (hZ size).bind fun r=>
  fF slices r
 |e::tl,size=>
  if(decide ((IntKind.i64.wrap (size+(e.length:Int)))<(0:Int)))then
  (none)
  else
  ((fG slices tl) (IntKind.i64.wrap (size+(e.length:Int))))

def eO(slices:(List (List (List ac)))):Option (List (List ac)):=
 fG slices slices (0:Int)

def kh(r:cT)(n:am):Option ((List (List ac))×Int):=
 (cN r.rows n.A).bind fun e=>
 (cN r.rows n.B).bind fun e1=>
 (eO ([e,e1])).bind fun r1=>
 some (r1,(0:Int))

def nU(nx:Option Int)(n:Int):Option Int:=
 if(n !=(0:Int))then
 (some n)
 else
 (nx)

def ju(a1:(List ac))(b:(List ac)):List gL→Option Int
 |[]=>
  (pn a1 b).bind fun r=>
  some r
 |e::tl=>
  (cN a1 e.Col).bind fun e1=>
  (cN b e.Col).bind fun e2=>
  (ij e1 e2).bind fun r1=>
  if e.Desc then
  (nU (ju a1 b tl) (IntKind.i64.wrap (0-r1)))
  else
  (nU (ju a1 b tl) r1)

def nV(order:(List gL))(a1:(List ac))(b:(List ac)):Option Int:=
 ju a1 b order

def B4(order:(List gL)):Option ((List ac)→(List ac)→Option Int):=
 some (nV order)

def ol(out1:List (List ac)):Option (List (List ac)):=
 some out1

def kg(order:(List gL))(limit:Int):List (List ac)→(List (List ac))→Option (List (List ac))
  |[],out=>
    (B4 order).bind fun r=>
    (yV (fun(x:(List ac)×(List ac))=>r x.1 x.2) out).bind fun uu=>
    if((decide ((0:Int)≤limit))&&(decide (limit<(uu.length:Int))))then
    ((dD uu 0 limit).bind fun y=>
    ol y)
    else
    (ol uu)
  |e::tl,out=>
    (cv e).bind fun r1=>
    (app out ([r1])).bind fun out2=>
    (kg order limit tl) out2

def oK(rows:(List (List ac)))(order:(List gL))(limit:Int):Option (List (List ac)):=
 kg order limit rows ([]:List (List ac))

def ki(r:cT)(n:am):Option ((List (List ac))×Int):=
 (cN r.rows n.A).bind fun e=>
 (oK e n.Order n.Limit).bind fun r1=>
 some (r1,(0:Int))

def vL(l:(List (List ac))):Option ((List (List ac))×Int):=
  (uV ([l])).bind fun r=>
  if(r !=(0:Int))then
  (some ([],r))
  else
  ((sO l).bind fun r1=>
  some (r1,(0:Int)))

def dZ(s:(List gL)):Option (List gL):=
 (app ([]:List gL) s).bind fun x=>
 some x

def cj(s:(List aX)):Option (List aX):=
 (app ([]:List aX) s).bind fun x=>
 some x

def ff(s:(List ea)):Option (List ea):=
 (app ([]:List ea) s).bind fun x=>
 some x

def ep(s:(List br)):Option (List br):=
 (app ([]:List br) s).bind fun x=>
 some x

def mV:List br→Nat→am→Option am
 |[],i1,n4=>
  some n4
 |e1::tl1,i1,n4=>
  (cN n4.Items (i1:Int)).bind fun e2=>
  (cj e2.Nodes).bind fun r6=>
  (some (n4.Items.set (i1:Int).toNat ({e2 with Nodes:=r6}:br))).bind fun st=>
  (mV tl1) (i1+1) ({n4 with Items:=st}:am)

def mW:List ea→Nat→am→Option am
 |[],i,n3=>
  mV n3.Items 0 n3
 |e::tl,i,n3=>
  (cN n3.Aggs (i:Int)).bind fun e3=>
  (cj e3.Arg.Nodes).bind fun r7=>
  (some (n3.Aggs.set (i:Int).toNat ({e3 with Arg:=({e3.Arg with Nodes:=r7}:br)}:ea))).bind fun st1=>
  (mW tl) (i+1) ({n3 with Aggs:=st1}:am)

def mX(n2:am):Option am:=
 (cu n2.Kinds).bind fun r=>
 (cu n2.Keys).bind fun r1=>
 (dZ n2.Order).bind fun r2=>
 (cj (((am.mk n2.Op n2.A n2.B n2.Table r n2.Left n2.Cond r1 n2.Aggs n2.Items r2 n2.Limit).Cond).Nodes)).bind fun r3=>
 (ff (({(am.mk n2.Op n2.A n2.B n2.Table r n2.Left n2.Cond r1 n2.Aggs n2.Items r2 n2.Limit)with Cond:=({(am.mk n2.Op n2.A n2.B n2.Table r n2.Left n2.Cond r1 n2.Aggs n2.Items r2 n2.Limit).Cond with Nodes:=r3}:br)}:am).Aggs)).bind fun r4=>
 (ep (({(am.mk n2.Op n2.A n2.B n2.Table r n2.Left n2.Cond r1 n2.Aggs n2.Items r2 n2.Limit)with Cond:=({(am.mk n2.Op n2.A n2.B n2.Table r n2.Left n2.Cond r1 n2.Aggs n2.Items r2 n2.Limit).Cond with Nodes:=r3}:br)}:am).Items)).bind fun r5=>
 mW r4 0 ({({({(am.mk n2.Op n2.A n2.B n2.Table r n2.Left n2.Cond r1 n2.Aggs n2.Items r2 n2.Limit)with Cond:=({(am.mk n2.Op n2.A n2.B n2.Table r n2.Left n2.Cond r1 n2.Aggs n2.Items r2 n2.Limit).Cond with Nodes:=r3}:br)}:am)with Aggs:=r4}:am)with Items:=r5}:am)

def oQ(by1:Int)(n1:am):Option am:=
 if(decide ((0:Int)≤n1.B))then
 (mX (am.mk n1.Op n1.A (IntKind.i64.wrap (n1.B+by1)) n1.Table n1.Kinds n1.Left n1.Cond n1.Keys n1.Aggs n1.Items n1.Order n1.Limit))
 else
 (mX n1)

def sf(n:am)(by1:Int):Option am:=
 if(decide ((0:Int)≤n.A))then
 (oQ by1 (am.mk n.Op (IntKind.i64.wrap (n.A+by1)) n.B n.Table n.Kinds n.Left n.Cond n.Keys n.Aggs n.Items n.Order n.Limit))
 else
 (oQ by1 n)

def ne(l:bN)(place:Int)(e:Int):Nat→Int→bN→Option (bN×Int)
  |0,_,_=>none
  |n+1,i,out=>
    if(decide (i≤place))then
    ((cN l.Nodes i).bind fun e1=>
    (sf e1 (IntKind.i64.wrap (0-e))).bind fun r1=>
    (app out.Nodes ([r1])).bind fun l2=>
    (ne l place e n) (IntKind.i64.wrap (i+(1:Int))) ({out with Nodes:=l2}:bN))
    else
    (some (out,(0:Int)))

def s6(l:bN)(place:Int):Option (bN×Int):=
  (o7 l).bind fun r=>
  if(!r.2.2)then
  (some ((⟨[]⟩:bN),(230:Int)))
  else
  (if((decide (place<(0:Int)))||(decide ((l.Nodes.length:Int)≤place)))then
  (some ((⟨[]⟩:bN),(2:Int)))
  else
  ((cN r.1.first place).bind fun e=>
  ne l place e gX e ({(⟨[]⟩:bN)with Nodes:=([]:List am)}:bN)))

def nW(l:bN)(nx:Nat→cT→Option ((List (List ac))×Int))(i:Nat)(r2:((List (List ac))×Int)×cT)(rows:(List (List ac))):Option ((List (List ac))×Int):=
 (s6 l (i:Int)).bind fun r3=>
 (pt r3.1).bind fun r4=>
 (app r2.2.rows ([rows])).bind fun l3=>
 (app r2.2.width ([(r4.1.length:Int)])).bind fun l4=>
 nx (i+1) ({({r2.2 with rows:=l3}:cT)with width:=l4}:cT)

def nX(l:bN)(nx:Nat→cT→Option ((List (List ac))×Int))(i:Nat)(e:am)(r2:((List (List ac))×Int)×cT)(e2:Int):Option ((List (List ac))×Int):=
  if(e2 !=(0:Int))then
  (some ([],e2))
  else
  (if(e.Op !=(8:Int))then
  ((vL r2.1.1).bind fun r5=>
  nW l nx i r2 r5.1)
  else
  (nW l nx i r2 r2.1.1))

def fV(l:bN):List am→Nat→cT→Option ((List (List ac))×Int)
 |[],i,ob=>
  (cN ob.rows (IntKind.i64.wrap ((ob.rows.length:Int)-(1:Int)))).bind fun e1=>
  some (e1,(0:Int))
 |e::tl,i,ob=>
  (((o6 (du (du (du (du (du (du (du (du ([]:List (Int×(cT→am→Option (((List (List ac))×Int)×cT)))) (1:Int) (fun(mc:cT) (mx:am)=>(kS mc mx).map fun mr=>(mr,mc))) (2:Int) (fun(mc:cT) (mx:am)=>(jE mc mx).map fun mr=>(mr,mc))) (3:Int) (fun(mc:cT) (mx:am)=>(jz mc mx).map fun mr=>(mr,mc))) (4:Int) (fun(mc:cT) (mx:am)=>(i8 mc mx).map fun mr=>(mr,mc))) (5:Int) (fun(mc:cT) (mx:am)=>(i7 mc mx).map fun mr=>(mr,mc))) (6:Int) (fun(mc:cT) (mx:am)=>(iE mc mx).map fun mr=>(mr,mc))) (7:Int) (fun(mc:cT) (mx:am)=>(kh mc mx).map fun mr=>(mr,mc))) (8:Int) (fun(mc:cT) (mx:am)=>(ki mc mx).map fun mr=>(mr,mc))) e.Op).getD (fun _ _=>none)) ob (e)).bind fun r2=>
  if((r2.1.2==(0:Int))&&(decide ((8000:Int)<(r2.1.1.length:Int))))then
  (nX l (fV l tl) i e r2 (3:Int))
  else
  (nX l (fV l tl) i e r2 r2.1.2)

def j5(l:bN)(b:eD):Option ((List (List ac))×Int):=
  (pu l).bind fun r=>
  if(r.2 !=(0:Int))then
  (some ([],r.2))
  else
  ((ug l b).bind fun r1=>
  if(!r1)then
  (some ([],(250:Int)))
  else
  (fV l l.Nodes 0 (⟨b,[],[]⟩:cT)))

def EN:Option am:=
 some (⟨(1:Int),(-1:Int),(-1:Int),(0:Int),[(2:Int)],false,(⟨[]⟩:br),[],[],[],[],(0:Int)⟩:am)

def GJ(k:Int):Option br:=
 some (⟨[(⟨(2:Int),(-1:Int),(-1:Int),k,(⟨(0:Int),(0:Int),(0:Int),[]⟩:ac)⟩:aX)]⟩:br)

def H9(k:Int):Option (List ac):=
 some ([(⟨(2:Int),k,(0:Int),[]⟩:ac)])

def CE:Option eD:=
 (H9 (1:Int)).bind fun r=>
 (H9 (2:Int)).bind fun r1=>
 some (⟨[[r,r1,[(⟨(0:Int),(0:Int),(0:Int),[]⟩:ac)]]]⟩:eD)

def tY:Option Bool:=
  (EN).bind fun r=>
  (GJ (0:Int)).bind fun r1=>
  (CE).bind fun r2=>
  (j5 (⟨[r,(⟨(4:Int),(0:Int),(-1:Int),(0:Int),[],false,(⟨[]⟩:br),[],[(⟨(1:Int),(⟨[]⟩:br)⟩:ea),(⟨(3:Int),r1⟩:ea)],[],[],(0:Int)⟩:am)]⟩:bN) r2).bind fun r3=>
  (if((r3.2==(0:Int))&&((r3.1.length:Int)==(1:Int)))then((cN r3.1 (0:Int)).bind fun e=>
  some ((e.length:Int)==(2:Int)))else some false).bind fun t=>
  (if t then((cN r3.1 (0:Int)).bind fun e1=>
  (cN e1 (0:Int)).bind fun e2=>
  some (e2.N==(3:Int)))else some false).bind fun t1=>
  (if t1 then((cN r3.1 (0:Int)).bind fun e3=>
  (cN e3 (1:Int)).bind fun e4=>
  some (e4.N==(3:Int)))else some false).bind fun t2=>
  some t2

def lc(nx:Option Bool):List ac→Option Bool
 |[]=>
  nx
 |e1::tl1=>
  if(decide ((200:Int)<(e1.S.length:Int)))then
  (some true)
  else
  ((lc nx tl1))

def iw:List (List ac)→Option Bool
 |[]=>
  some false
 |e::tl=>
  if(decide ((30:Int)<(e.length:Int)))then
  (some true)
  else
  (lc (iw tl) e)

def pZ(l:(List (List ac)))(most:Int):Option Bool:=
 if(decide (most<(l.length:Int)))then
 (some true)
 else
 (iw l)

def lg:List (List (List ac))→Option Bool
 |[]=>
  some false
 |e::tl=>
  (pZ e (30:Int)).bind fun r=>
  if r then
  (some true)
  else
  ((lg tl))

def p5(b:eD):Option Bool:=
 if(decide ((10:Int)<(b.Tables.length:Int)))then
 (some true)
 else
 (lg b.Tables)

def ld:List aX→Option Bool
 |[]=>
  some false
 |e1::tl=>
  if(decide ((200:Int)<(e1.Value.S.length:Int)))then
  (some true)
  else
  ((ld tl))

def lN(e:br):Option Bool:=
 if(decide ((100:Int)<(e.Nodes.length:Int)))then
 (some true)
 else
 (ld e.Nodes)

def nf(b:eD)(nx:Int→Option Bool)(e:am)(rows:Int):List ea→Option Bool
  |[]=>
    if(((e.Op==(1:Int))&&(decide ((0:Int)≤e.Table)))&&(decide (e.Table<(b.Tables.length:Int))))then
    ((cN b.Tables e.Table).bind fun e3=>
    nx (IntKind.i64.wrap (rows*(IntKind.i64.wrap ((e3.length:Int)+(1:Int))))))
    else
    (nx rows)
  |e2::tl2=>
    (lN e2.Arg).bind fun r1=>
    if r1 then
    (some true)
    else
    ((nf b nx e rows tl2))

def nh(b:eD)(nx:Int→Option Bool)(e:am)(rows:Int):List br→Option Bool
 |[]=>
  nf b nx e rows e.Aggs
 |e1::tl1=>
  (lN e1).bind fun r2=>
  if r2 then
  (some true)
  else
  ((nh b nx e rows tl1))

def j4(b:eD):List am→Int→Option Bool
  |[],rows=>
    some (decide ((3000:Int)<rows))
  |e::tl,rows=>
    (if(!(((((decide ((20:Int)<(e.Kinds.length:Int)))||(decide ((20:Int)<(e.Keys.length:Int))))||(decide ((20:Int)<(e.Order.length:Int))))||(decide ((20:Int)<(e.Items.length:Int))))||(decide ((20:Int)<(e.Aggs.length:Int)))))then((lN e.Cond).bind fun r=>
    some r)else some true).bind fun t=>
    if t then
    (some true)
    else
    (nh b (j4 b tl) e rows e.Items)

def vR(l:bN)(b:eD):Option Bool:=
 if(decide ((30:Int)<(l.Nodes.length:Int)))then
 (some true)
 else
 (j4 b l.Nodes (1:Int))

def dJ(v:ac):Option Bool:=
  if(v.Kind==(0:Int))then
  (some (decide (v=(⟨(0:Int),(0:Int),(0:Int),[]⟩:ac))))
  else
  (if(v.Kind==(1:Int))then
  (some (((v.U==(0:Int))&&(v.S==([])))&&((v.N==(0:Int))||(v.N==(1:Int)))))
  else
  (if(v.Kind==(2:Int))then
  (some ((v.U==(0:Int))&&(v.S==([]))))
  else
  (if(v.Kind==(3:Int))then
  (some (((v.N==(0:Int))&&(v.U==(0:Int)))&&(decide ((v.S.length:Int)≤(40:Int)))))
  else
  (some ((v.Kind==(4:Int))&&(v.S==([])))))))

def qu(less:Bool):Option Int:=
 if less then
 (some (-1:Int))
 else
 (some (1:Int))

def pp(a1:ac)(b:ac):Option Int:=
  if(a1.Kind !=b.Kind)then
  ((qu (decide (a1.Kind<b.Kind))).bind fun r=>
  some r)
  else
  (if(a1.N !=b.N)then
  ((qu (decide (a1.N<b.N))).bind fun r1=>
  some r1)
  else
  (if(a1.U !=b.U)then
  ((qu (decide (a1.U<b.U))).bind fun r2=>
  some r2)
  else
  (if(!(a1.S==b.S))then
  ((qu (Op.bytesLess a1.S b.S)).bind fun r3=>
  some r3)
  else
  (some (0:Int)))))

def lK(x1:Bool):Option Int:=
 if x1 then
 (some (1:Int))
 else
 (some (-1:Int))

def sT(op:Int)(x:Bool):Option Int:=
  if x then
  (some (2:Int))
  else
  (if(op==(3:Int))then
  (lK (op==(3:Int)))
  else
  (if(op==(4:Int))then
  (lK (op==(4:Int)))
  else
  (if(op==(5:Int))then
  (lK (op==(5:Int)))
  else
  (if(op==(6:Int))then
  (lK (op==(6:Int)))
  else
  (lK (op==(8:Int)))))))

def wY(op:Int):Option Int:=
  if(op==(1:Int))then
  (some (0:Int))
  else
  (if(op==(2:Int))then
  (sT op (op==(2:Int)))
  else
  (sT op (op==(7:Int))))

def bU:Nat→bN→Int→Option Int
  |0,_,_=>none
  |fu+1,l,at1=>
    if((decide (at1<(0:Int)))||(decide ((l.Nodes.length:Int)≤at1)))then
    (some (0:Int))
    else
    ((cN l.Nodes at1).bind fun e=>
    (wY e.Op).bind fun r=>
    if(r==(0:Int))then
    (if((e.A==(-1:Int))&&(e.B==(-1:Int)))then
    (some (1:Int))
    else
    (some (0:Int)))
    else
    (if(r==(1:Int))then
    (if((e.A==(IntKind.i64.wrap (at1-(1:Int))))&&(e.B==(-1:Int)))then
    (((bU fu) l e.A).bind fun r1=>
    if(decide ((0:Int)<r1))then
    (some (IntKind.i64.wrap (r1+(1:Int))))
    else
    (some (0:Int)))
    else
    (some (0:Int)))
    else
    (if(r==(2:Int))then
    (if(e.B==(IntKind.i64.wrap (at1-(1:Int))))then
    (((bU fu) l e.B).bind fun r2=>
    if((decide ((0:Int)<r2))&&(e.A==(IntKind.i64.wrap (e.B-r2))))then
    (((bU fu) l e.A).bind fun r3=>
    if(decide ((0:Int)<r3))then
    (some (IntKind.i64.wrap ((IntKind.i64.wrap (r3+r2))+(1:Int))))
    else
    (some (0:Int)))
    else
    (some (0:Int)))
    else
    (some (0:Int)))
    else
    (some (0:Int)))))

def kw(l:bN)(at1:Int):Option Int:=
 bU gX l at1

def ss(n:am):Option Bool:=
  if((n.Op !=(1:Int))&&((n.Table !=(0:Int))||(decide ((0:Int)<(n.Kinds.length:Int)))))then
  (some false)
  else
  (if(((n.Op !=(2:Int))&&n.Left)||(((n.Op !=(2:Int))&&(n.Op !=(3:Int)))&&(decide ((0:Int)<(n.Cond.Nodes.length:Int)))))then
  (some false)
  else
  (if(((n.Op !=(4:Int))&&((decide ((0:Int)<(n.Keys.length:Int)))||(decide ((0:Int)<(n.Aggs.length:Int)))))||((n.Op !=(5:Int))&&(decide ((0:Int)<(n.Items.length:Int)))))then
  (some false)
  else
  (some ((n.Op==(8:Int))||(((n.Order.length:Int)==(0:Int))&&(n.Limit==(0:Int)))))))

def CB(tag:Int):Option Int:=
  if((decide (tag<(1:Int)))||(decide ((23:Int)<tag)))then
  (some (-1:Int))
  else
  (if(decide (tag≤(3:Int)))then
  (some (0:Int))
  else
  (if(decide (tag≤(11:Int)))then
  (some (1:Int))
  else
  (some (2:Int))))

def w7(tag:Int):Option Int:=
  if((tag==(3:Int))||((decide ((8:Int)≤tag))&&(decide (tag≤(11:Int)))))then
  (some (-1:Int))
  else
  ((CB tag).bind fun r=>
  some r)

def md(v:ac):Option Bool:=
 (dJ v).bind fun r=>
 some (r&&(v.Kind !=(4:Int)))

def mt(n:aX):Option Bool:=
  if(n.Tag==(1:Int))then
  ((md n.Value).bind fun r=>
  some (r&&(n.Col==(0:Int))))
  else
  (if(n.Tag==(2:Int))then
  (some (((decide (n.Value=(⟨(0:Int),(0:Int),(0:Int),[]⟩:ac)))&&(decide ((0:Int)≤n.Col)))&&(decide (n.Col<(16:Int)))))
  else
  (some ((decide (n.Value=(⟨(0:Int),(0:Int),(0:Int),[]⟩:ac)))&&(n.Col==(0:Int)))))

def jh:Nat→br→Int→Option Int
  |0,_,_=>none
  |fu+1,e,place=>
    if((decide (place<(0:Int)))||(decide ((e.Nodes.length:Int)≤place)))then
    (some (0:Int))
    else
    ((cN e.Nodes place).bind fun e1=>
    (w7 e1.Tag).bind fun r=>
    (if(!(decide (r<(0:Int))))then((mt e1).bind fun r1=>
    some (!r1))else some true).bind fun t=>
    if t then
    (some (0:Int))
    else
    (if(r==(0:Int))then
    (if((e1.L !=(-1:Int))||(e1.R !=(-1:Int)))then
    (some (0:Int))
    else
    (some (1:Int)))
    else
    (((jh fu) e (IntKind.i64.wrap (place-(1:Int)))).bind fun r2=>
    if(r2==(0:Int))then
    (some (0:Int))
    else
    (if(r==(1:Int))then
    (if((e1.L !=(IntKind.i64.wrap (place-(1:Int))))||(e1.R !=(-1:Int)))then
    (some (0:Int))
    else
    (some (IntKind.i64.wrap (r2+(1:Int)))))
    else
    (((jh fu) e (IntKind.i64.wrap ((IntKind.i64.wrap (place-(1:Int)))-r2))).bind fun r3=>
    if(((r3==(0:Int))||(e1.R !=(IntKind.i64.wrap (place-(1:Int)))))||(e1.L !=(IntKind.i64.wrap ((IntKind.i64.wrap (place-(1:Int)))-r2))))then
    (some (0:Int))
    else
    (some (IntKind.i64.wrap ((IntKind.i64.wrap (r3+r2))+(1:Int)))))))))

def Em(e:br)(place:Int):Option Int:=
 jh gX e place

def tS(e:br):Option Bool:=
  (if((decide ((1:Int)≤(e.Nodes.length:Int)))&&(decide ((e.Nodes.length:Int)≤(1000:Int))))then((Em e (IntKind.i64.wrap ((e.Nodes.length:Int)-(1:Int)))).bind fun r=>
  some (r==(e.Nodes.length:Int)))else some false).bind fun t=>
  some t

def iq(k:Int)(want:Int):Option Bool:=
 some ((k==want)||(k==(0:Int)))

def iY(tag:Int)(l:Int)(r:Int):Option (Int×Bool):=
  if((tag==(4:Int))||((decide ((12:Int)≤tag))&&(decide (tag≤(15:Int)))))then
  ((iq l (2:Int)).bind fun r1=>
  (if r1 then((iq r (2:Int)).bind fun r2=>
  some r2)else some false).bind fun t=>
  some ((2:Int),t))
  else
  (if((tag==(5:Int))||(decide ((22:Int)≤tag)))then
  ((iq l (1:Int)).bind fun r3=>
  (if r3 then((iq r (1:Int)).bind fun r4=>
  some r4)else some false).bind fun t1=>
  some ((1:Int),t1))
  else
  (if((tag==(6:Int))||(tag==(7:Int)))then
  (some ((1:Int),true))
  else
  (some ((1:Int),(((l==r)||(l==(0:Int)))||(r==(0:Int)))))))

def qQ(nx2:(List Int)→Option (Int×Int))(e3:aX)(own:List Int)(e6:Int)(r1:Int):Option (Int×Int):=
  (iY e3.Tag e6 r1).bind fun r2=>
  if(!r2.2)then
  (some ((0:Int),(201:Int)))
  else
  ((app own ([r2.1])).bind fun own3=>
  nx2 own3)

def dm(kinds:(List Int)):List aX→(List Int)→Option (Int×Int)
  |[],own=>
    (cN own (IntKind.i64.wrap ((own.length:Int)-(1:Int)))).bind fun e4=>
    some (e4,(0:Int))
  |e3::tl2,own=>
    if(e3.Tag==(1:Int))then
    ((app own ([e3.Value.Kind])).bind fun own1=>
    (dm kinds tl2) own1)
    else
    (if(e3.Tag==(2:Int))then
    ((cN kinds e3.Col).bind fun e5=>
    (app own ([e5])).bind fun own2=>
    (dm kinds tl2) own2)
    else
    ((cN own e3.L).bind fun e6=>
    if(decide ((0:Int)≤e3.R))then
    ((cN own e3.R).bind fun e7=>
    qQ (dm kinds tl2) e3 own e6 e7)
    else
    (qQ (dm kinds tl2) e3 own e6 (0:Int))))

def oC(e:br)(kinds:(List Int)):List aX→Option (Int×Int)
 |[]=>
  dm kinds e.Nodes ([]:List Int)
 |e2::tl1=>
  if((e2.Tag==(2:Int))&&(decide ((kinds.length:Int)≤e2.Col)))then
  (some ((0:Int),(2:Int)))
  else
  ((oC e kinds tl1))

def qP(e:br)(kinds:(List Int)):List Int→Option (Int×Int)
 |[]=>
  oC e kinds e.Nodes
 |e1::tl=>
  if((decide (e1<(0:Int)))||(decide ((3:Int)<e1)))then
  (some ((0:Int),(2:Int)))
  else
  ((qP e kinds tl))

def sU(e:br)(kinds:(List Int)):Option (Int×Int):=
 (tS e).bind fun r=>
 if(!r)then
 (some ((0:Int),(200:Int)))
 else
 (qP e kinds kinds)

def tR(e:br)(kinds:(List Int)):Option Bool:=
 (sU e kinds).bind fun r=>
 some ((r.2==(0:Int))&&((r.1==(0:Int))||(r.1==(1:Int))))

def kR(a1:ea)(kinds:(List Int)):Option (Int×Bool):=
  if(a1.Tag==(1:Int))then
  (some ((2:Int),((a1.Arg.Nodes.length:Int)==(0:Int))))
  else
  ((sU a1.Arg kinds).bind fun r=>
  if(((decide (a1.Tag<(1:Int)))||(decide ((5:Int)<a1.Tag)))||(r.2 !=(0:Int)))then
  (some ((0:Int),false))
  else
  (if(((a1.Tag==(3:Int))&&(r.1 !=(2:Int)))&&(r.1 !=(0:Int)))then
  (some ((0:Int),false))
  else
  (if(decide ((4:Int)≤a1.Tag))then
  (some (r.1,true))
  else
  (some ((2:Int),true)))))

def dx(n:am):Nat→Bool→Int→Option ((List Int)×Bool)
  |0,_,_=>none
  |n1+1,ok,i=>
    if(decide (i<(n.Kinds.length:Int)))then
    ((if ok then((cN n.Kinds i).bind fun e=>
    some (decide ((1:Int)≤e)))else some false).bind fun t=>
    (if t then((cN n.Kinds i).bind fun e1=>
    some (decide (e1≤(3:Int))))else some false).bind fun t1=>
    (dx n n1) t1 (IntKind.i64.wrap (i+(1:Int))))
    else
    (some (n.Kinds,((((ok&&(decide ((0:Int)≤n.Table)))&&(decide (n.Table≤(3:Int))))&&(decide ((1:Int)≤(n.Kinds.length:Int))))&&(decide ((n.Kinds.length:Int)≤(4:Int))))))

def cI(n:am)(a1:(List Int)):Nat→(List Int)→Bool→Int→Option ((List Int)×Bool)
  |0,_,_,_=>none
  |n3+1,out3,ok1,i2=>
    if(decide (i2<(n.Aggs.length:Int)))then
    ((cN n.Aggs i2).bind fun e4=>
    (kR e4 a1).bind fun r2=>
    (app out3 ([r2.1])).bind fun out4=>
    (cI n a1 n3) out4 (ok1&&r2.2) (IntKind.i64.wrap (i2+(1:Int))))
    else
    (some (out3,(((ok1&&(decide ((n.Keys.length:Int)≤(3:Int))))&&(decide ((n.Aggs.length:Int)≤(12:Int))))&&(decide ((0:Int)<(out3.length:Int))))))

def cR(n:am)(a1:(List Int)):Nat→(List Int)→Int→Option ((List Int)×Bool)
  |0,_,_=>none
  |n2+1,out1,i1=>
    if(decide (i1<(n.Keys.length:Int)))then
    ((cN n.Keys i1).bind fun e2=>
    if((decide (e2<(0:Int)))||(decide ((a1.length:Int)≤e2)))then
    (some ([],false))
    else
    ((cN a1 e2).bind fun e3=>
    (app out1 ([e3])).bind fun out2=>
    (cR n a1 n2) out2 (IntKind.i64.wrap (i1+(1:Int)))))
    else
    (cI n a1 gX out1 true (0:Int))

def cQ(n:am)(a1:(List Int)):Nat→(List Int)→Bool→Int→Option ((List Int)×Bool)
  |0,_,_,_=>none
  |n4+1,out5,ok2,i3=>
    if(decide (i3<(n.Items.length:Int)))then
    ((cN n.Items i3).bind fun e5=>
    (sU e5 a1).bind fun r3=>
    (app out5 ([r3.1])).bind fun out6=>
    (cQ n a1 n4) out6 (ok2&&(r3.2==(0:Int))) (IntKind.i64.wrap (i3+(1:Int))))
    else
    (some (out5,((ok2&&(decide ((1:Int)≤(out5.length:Int))))&&(decide ((out5.length:Int)≤(16:Int))))))

def ip(b:(List Int))(nx4:Nat→(List Int)→Bool→Option ((List Int)×Bool))(i4:Nat)(out7:List Int)(ok3:Bool)(k:Int):Option ((List Int)×Bool):=
  (app out7 ([k])).bind fun out8=>
  (if ok3 then((cN b (i4:Int)).bind fun e7=>
  (if(!(e7==k))then((cN b (i4:Int)).bind fun e8=>
  some (e8==(0:Int)))else some true).bind fun t3=>
  some t3)else some false).bind fun t2=>
  nx4 (i4+1) out8 t2

def dw(b:(List Int)):List Int→Nat→(List Int)→Bool→Option ((List Int)×Bool)
  |[],i4,out7,ok3=>
    some (out7,ok3)
  |e6::tl,i4,out7,ok3=>
    if(e6==(0:Int))then
    ((cN b (i4:Int)).bind fun e9=>
    ip b (dw b tl) i4 out7 ok3 e9)
    else
    (ip b (dw b tl) i4 out7 ok3 e6)

def de(n:am)(a1:(List Int)):Nat→Bool→Int→Option ((List Int)×Bool)
  |0,_,_=>none
  |n5+1,ok4,i5=>
    if(decide (i5<(n.Order.length:Int)))then
    ((if ok4 then((cN n.Order i5).bind fun e10=>
    some (decide ((0:Int)≤e10.Col)))else some false).bind fun t4=>
    (if t4 then((cN n.Order i5).bind fun e11=>
    some (decide (e11.Col<(a1.length:Int))))else some false).bind fun t5=>
    (de n a1 n5) t5 (IntKind.i64.wrap (i5+(1:Int))))
    else
    (some (a1,(((ok4&&(decide ((n.Order.length:Int)≤(3:Int))))&&(decide ((-1:Int)≤n.Limit)))&&(decide (n.Limit≤(2147483647:Int))))))

def bo(n:am)(a1:(List Int))(b:(List Int)):Option ((List Int)×Bool):=
  if(n.Op==(1:Int))then
  (dx n gX true (0:Int))
  else
  (if(n.Op==(2:Int))then
  ((app ([]:List Int) a1).bind fun l=>
  (app l b).bind fun out=>
  (tR n.Cond out).bind fun r=>
  some (out,r))
  else
  (if(n.Op==(3:Int))then
  ((tR n.Cond a1).bind fun r1=>
  some (a1,r1))
  else
  (if(n.Op==(4:Int))then
  (cR n a1 gX ([]:List Int) (0:Int))
  else
  (if(n.Op==(5:Int))then
  (cQ n a1 gX ([]:List Int) true (0:Int))
  else
  (if(n.Op==(6:Int))then
  (some (a1,true))
  else
  (if(n.Op==(7:Int))then
  (if((a1.length:Int) !=(b.length:Int))then
  (some ([],false))
  else
  (dw b a1 0 ([]:List Int) true))
  else
  (de n a1 gX true (0:Int))))))))

def gH(l:bN)(at1:Int)(e1:am)(a1:(List Int))(b1:(List Int)):Option ((List Int)×Bool):=
 (bo e1 a1 b1).bind fun r2=>
 if(((e1.Op==(8:Int))&&(at1 !=(IntKind.i64.wrap ((l.Nodes.length:Int)-(1:Int)))))||(decide ((16:Int)<(r2.1.length:Int))))then
 (some ([],false))
 else
 (some (r2.1,r2.2))

def ez(self__:bN→Int→Option ((List Int)×Bool))(l:bN)(at1:Int)(e1:am)(a1:(List Int)):Option ((List Int)×Bool):=
  if(decide ((0:Int)≤e1.B))then
  ((self__ l e1.B).bind fun r3=>
  if(!r3.2)then
  (some ([],false))
  else
  (gH l at1 e1 a1 r3.1))
  else
  (gH l at1 e1 a1 ([]))

def cg:Nat→bN→Int→Option ((List Int)×Bool)
  |0,_,_=>none
  |fu+1,l,at1=>
    (kw l at1).bind fun r=>
    (if(!(r==(0:Int)))then((cN l.Nodes at1).bind fun e=>
    (ss e).bind fun r1=>
    some (!r1))else some true).bind fun t=>
    if t then
    (some ([],false))
    else
    ((cN l.Nodes at1).bind fun e1=>
    if(decide ((0:Int)≤e1.A))then
    (((cg fu) l e1.A).bind fun r4=>
    if(!r4.2)then
    (some ([],false))
    else
    (ez (cg fu) l at1 e1 r4.1))
    else
    (ez (cg fu) l at1 e1 ([])))

def q9(l:bN)(at1:Int):Option ((List Int)×Bool):=
 cg gX l at1

def fg(l:bN):List am→Nat→Option Int
 |[],i=>
  (kw l (IntKind.i64.wrap ((l.Nodes.length:Int)-(1:Int)))).bind fun r=>
  if(r !=(l.Nodes.length:Int))then
  (some (IntKind.i64.wrap ((l.Nodes.length:Int)-(1:Int))))
  else
  (some (-1:Int))
 |e::tl,i=>
  (q9 l (i:Int)).bind fun r1=>
  if(!r1.2)then
  (some (i:Int))
  else
  ((fg l tl) (i+1))

def q8(l:bN):Option Int:=
 if((decide ((l.Nodes.length:Int)<(1:Int)))||(decide ((60:Int)<(l.Nodes.length:Int))))then
 (some (0:Int))
 else
 (fg l l.Nodes 0)

def CA(l:bN):Option Bool:=
 (q8 l).bind fun r=>
 some (decide (r<(0:Int)))

def j8(n:Int):Option ac:=
 some (⟨(2:Int),n,(0:Int),[]⟩:ac)

def o5(v:ac):Option Bool:=
 (dJ v).bind fun r=>
 some (r&&((v.Kind==(0:Int))||(v.Kind==(2:Int))))

def nL(high:Int)(low:Int)(b2:eN):Option eN:=
 some ({({({({b2 with D:=(b2.D.set (0:Int).toNat ((low).tmod (4294967296:Int)))}:eN)with D:=((({b2 with D:=(b2.D.set (0:Int).toNat ((low).tmod (4294967296:Int)))}:eN).D).set (1:Int).toNat ((low).fdiv (2^(min (Int.toNat (32:Int)) IntKind.u64.bits))))}:eN)with D:=((({({b2 with D:=(b2.D.set (0:Int).toNat ((low).tmod (4294967296:Int)))}:eN)with D:=((({b2 with D:=(b2.D.set (0:Int).toNat ((low).tmod (4294967296:Int)))}:eN).D).set (1:Int).toNat ((low).fdiv (2^(min (Int.toNat (32:Int)) IntKind.u64.bits))))}:eN).D).set (2:Int).toNat ((high).tmod (4294967296:Int)))}:eN)with D:=((({({({b2 with D:=(b2.D.set (0:Int).toNat ((low).tmod (4294967296:Int)))}:eN)with D:=((({b2 with D:=(b2.D.set (0:Int).toNat ((low).tmod (4294967296:Int)))}:eN).D).set (1:Int).toNat ((low).fdiv (2^(min (Int.toNat (32:Int)) IntKind.u64.bits))))}:eN)with D:=((({({b2 with D:=(b2.D.set (0:Int).toNat ((low).tmod (4294967296:Int)))}:eN)with D:=((({b2 with D:=(b2.D.set (0:Int).toNat ((low).tmod (4294967296:Int)))}:eN).D).set (1:Int).toNat ((low).fdiv (2^(min (Int.toNat (32:Int)) IntKind.u64.bits))))}:eN).D).set (2:Int).toNat ((high).tmod (4294967296:Int)))}:eN).D).set (3:Int).toNat ((high).fdiv (2^(min (Int.toNat (32:Int)) IntKind.u64.bits))))}:eN)

def rb(n:Int)(u:Int):Option eN:=
  if(decide (n<(0:Int)))then
  (if((IntKind.u64.wrap ((fi .xor .u64 (if IntKind.u64.signed then -1 else IntKind.u64.max) u)+(1:Int)))==(0:Int))then
  (nL (IntKind.u64.wrap ((fi .xor .u64 (if IntKind.u64.signed then -1 else IntKind.u64.max) (IntKind.u64.wrap n))+(1:Int))) (IntKind.u64.wrap ((fi .xor .u64 (if IntKind.u64.signed then -1 else IntKind.u64.max) u)+(1:Int))) (eN.mk (⟨(List.replicate 8 (0:Int)),false⟩:eN).D true))
  else
  (nL (fi .xor .u64 (if IntKind.u64.signed then -1 else IntKind.u64.max) (IntKind.u64.wrap n)) (IntKind.u64.wrap ((fi .xor .u64 (if IntKind.u64.signed then -1 else IntKind.u64.max) u)+(1:Int))) (eN.mk (⟨(List.replicate 8 (0:Int)),false⟩:eN).D true)))
  else
  (nL (IntKind.u64.wrap n) u (⟨(List.replicate 8 (0:Int)),false⟩:eN))

def fN(n:Int):Option eN:=
  if(decide (n<(0:Int)))then
  ((rb (-1:Int) (IntKind.u64.wrap n)).bind fun r=>
  some r)
  else
  ((rb (0:Int) (IntKind.u64.wrap n)).bind fun r1=>
  some r1)

def lq(a1:eN)(b:eN):Nat→Int→Option Bool
  |0,_=>none
  |n+1,i=>
    if(decide ((0:Int)≤i))then
    ((cN a1.D i).bind fun e=>
    (cN b.D i).bind fun e1=>
    if(e !=e1)then
    (some (decide (e<e1)))
    else
    ((lq a1 b n) (IntKind.i64.wrap (i-(1:Int)))))
    else
    (some false)

def sX(a1:eN)(b:eN):Option Bool:=
 lq a1 b gX (7:Int)

def sW(a1:eN):Option Bool:=
 some (decide (a1.D=(List.replicate 8 (0:Int))))

def gI(a2:eN)(b4:eN):Nat→Nat→Int→eN→Option eN
  |0,i,carry,out=>
    (if out.Below then((sW out).bind fun r=>
    some (!r))else some false).bind fun t=>
    some (eN.mk out.D t)
  |k1+1,i,carry,out=>
    if(a2.Below==b4.Below)then
    ((Ro (i:Int) 8).bind fun u=>
    (cN a2.D (i:Int)).bind fun e1=>
    (Ro (i:Int) 8).bind fun u1=>
    (cN b4.D (i:Int)).bind fun e2=>
    (Ro (i:Int) 8).bind fun u2=>
    (gI a2 b4 k1) (i+1) (((IntKind.u64.wrap ((IntKind.u64.wrap (e1+e2))+carry))).fdiv (2^(min (Int.toNat (32:Int)) IntKind.u64.bits))) ({out with D:=(out.D.set (i:Int).toNat (((IntKind.u64.wrap ((IntKind.u64.wrap (e1+e2))+carry))).tmod (4294967296:Int)))}:eN))
    else
    ((Ro (i:Int) 8).bind fun u3=>
    (cN a2.D (i:Int)).bind fun e3=>
    (Ro (i:Int) 8).bind fun u4=>
    (cN b4.D (i:Int)).bind fun e4=>
    (Ro (i:Int) 8).bind fun u5=>
    (gI a2 b4 k1) (i+1) (IntKind.u64.wrap ((1:Int)-(((IntKind.u64.wrap ((IntKind.u64.wrap ((IntKind.u64.wrap (e3+(4294967296:Int)))-e4))-carry))).fdiv (2^(min (Int.toNat (32:Int)) IntKind.u64.bits))))) ({out with D:=(out.D.set (i:Int).toNat (((IntKind.u64.wrap ((IntKind.u64.wrap ((IntKind.u64.wrap (e3+(4294967296:Int)))-e4))-carry))).tmod (4294967296:Int)))}:eN))

def ii(a2:eN)(b4:eN):Option eN:=
 gI a2 b4 8 0 (0:Int) (⟨(List.replicate 8 (0:Int)),a2.Below⟩:eN)

def mu(a1:eN)(b:eN):Option eN:=
  (if(a1.Below !=b.Below)then((sX a1 b).bind fun r1=>
  some r1)else some false).bind fun t1=>
  if t1 then
  (ii b a1)
  else
  (ii a1 b)

def lr(a1:eN)(high:Int)(low:Int):Option (Int×Int×Bool):=
 some ((IntKind.i64.wrap high),low,((decide ((IntKind.i64.wrap high)<(0:Int)))==a1.Below))

def fk(a1:eN)(e:Int)(e1:Int)(e2:Int)(e3:Int):Nat→Nat→Option (Int×Int×Bool)
  |0,i=>
    if a1.Below then
    (if((IntKind.u64.wrap ((fi .xor .u64 (if IntKind.u64.signed then -1 else IntKind.u64.max) (IntKind.u64.wrap ((IntKind.u64.wrap (e2*2^(min (Int.toNat (32:Int)) IntKind.u64.bits)))+e3)))+(1:Int)))==(0:Int))then
    (lr a1 (IntKind.u64.wrap ((fi .xor .u64 (if IntKind.u64.signed then -1 else IntKind.u64.max) (IntKind.u64.wrap ((IntKind.u64.wrap (e*2^(min (Int.toNat (32:Int)) IntKind.u64.bits)))+e1)))+(1:Int))) (IntKind.u64.wrap ((fi .xor .u64 (if IntKind.u64.signed then -1 else IntKind.u64.max) (IntKind.u64.wrap ((IntKind.u64.wrap (e2*2^(min (Int.toNat (32:Int)) IntKind.u64.bits)))+e3)))+(1:Int))))
    else
    (lr a1 (fi .xor .u64 (if IntKind.u64.signed then -1 else IntKind.u64.max) (IntKind.u64.wrap ((IntKind.u64.wrap (e*2^(min (Int.toNat (32:Int)) IntKind.u64.bits)))+e1))) (IntKind.u64.wrap ((fi .xor .u64 (if IntKind.u64.signed then -1 else IntKind.u64.max) (IntKind.u64.wrap ((IntKind.u64.wrap (e2*2^(min (Int.toNat (32:Int)) IntKind.u64.bits)))+e3)))+(1:Int)))))
    else
    (lr a1 (IntKind.u64.wrap ((IntKind.u64.wrap (e*2^(min (Int.toNat (32:Int)) IntKind.u64.bits)))+e1)) (IntKind.u64.wrap ((IntKind.u64.wrap (e2*2^(min (Int.toNat (32:Int)) IntKind.u64.bits)))+e3)))
  |k1+1,i=>
    (cN a1.D (i:Int)).bind fun e5=>
    if(e5 !=(0:Int))then
    (some ((0:Int),(0:Int),false))
    else
    ((fk a1 e e1 e2 e3 k1) (i+1))

def vM(a1:eN):Option (Int×Int×Bool):=
 (cN a1.D (3:Int)).bind fun e=>
 (cN a1.D (2:Int)).bind fun e1=>
 (cN a1.D (1:Int)).bind fun e2=>
 (cN a1.D (0:Int)).bind fun e3=>
 fk a1 e e1 e2 e3 (8-4) 4

def iH(a1:eN):Option (Int×Bool):=
 (vM a1).bind fun r=>
 some ((IntKind.i64.wrap r.2.1),(r.2.2&&(((r.1==(0:Int))&&(decide ((0:Int)≤(IntKind.i64.wrap r.2.1))))||((r.1==(-1:Int))&&(decide ((IntKind.i64.wrap r.2.1)<(0:Int)))))))

def r0(a1:eN):Option eN:=
  (if(!a1.Below)then((sW a1).bind fun r=>
  some (!r))else some false).bind fun t=>
  some (eN.mk a1.D t)

def jn(a1:eN)(b:eN)(nx:Nat→eN→Option eN)(i:Nat):Nat→Nat→Int→eN→Option eN
 |0,i1,carry,out1=>
  (Ro (IntKind.i64.wrap ((i:Int)+(4:Int))) 8).bind fun u=>
  nx (i+1) ({out1 with D:=(out1.D.set (IntKind.i64.wrap ((i:Int)+(4:Int))).toNat carry)}:eN)
 |k3+1,i1,carry,out1=>
  (Ro (IntKind.i64.wrap ((i:Int)+(i1:Int))) 8).bind fun u1=>
  (cN out1.D (IntKind.i64.wrap ((i:Int)+(i1:Int)))).bind fun e2=>
  (cN a1.D (i:Int)).bind fun e3=>
  (cN b.D (i1:Int)).bind fun e4=>
  (Ro (IntKind.i64.wrap ((i:Int)+(i1:Int))) 8).bind fun u2=>
  (jn a1 b nx i k3) (i1+1) (((IntKind.u64.wrap ((IntKind.u64.wrap (e2+(IntKind.u64.wrap (e3*e4))))+carry))).fdiv (2^(min (Int.toNat (32:Int)) IntKind.u64.bits))) ({out1 with D:=(out1.D.set (IntKind.i64.wrap ((i:Int)+(i1:Int))).toNat (((IntKind.u64.wrap ((IntKind.u64.wrap (e2+(IntKind.u64.wrap (e3*e4))))+carry))).tmod (4294967296:Int)))}:eN)

def fh(a1:eN)(b:eN):Nat→Nat→eN→Option eN
  |0,i,out=>
    (if(a1.Below !=b.Below)then((sW out).bind fun r=>
    some (!r))else some false).bind fun t=>
    some (eN.mk out.D t)
  |k1+1,i,out=>
    jn a1 b (fh a1 b k1) i 4 0 (0:Int) out

def tU(a1:eN)(b:eN):Option eN:=
 fh a1 b 4 0 (⟨(List.replicate 8 (0:Int)),false⟩:eN)

def nK(a1:eN)(b:eN):Option eN:=
 (cN a1.D (1:Int)).bind fun e=>
 (cN a1.D (0:Int)).bind fun e1=>
 (cN b.D (1:Int)).bind fun e2=>
 (cN b.D (0:Int)).bind fun e3=>
 (nz (IntKind.u64.wrap ((IntKind.u64.wrap (e2*2^(min (Int.toNat (32:Int)) IntKind.u64.bits)))+e3))).bind fun _=>
 some (⟨(((List.replicate 8 (0:Int)).set 0 (((IntKind.u64.wrap (((IntKind.u64.wrap ((IntKind.u64.wrap (e*2^(min (Int.toNat (32:Int)) IntKind.u64.bits)))+e1))).tdiv (IntKind.u64.wrap ((IntKind.u64.wrap (e2*2^(min (Int.toNat (32:Int)) IntKind.u64.bits)))+e3))))).tmod (4294967296:Int))).set 1 (((IntKind.u64.wrap (((IntKind.u64.wrap ((IntKind.u64.wrap (e*2^(min (Int.toNat (32:Int)) IntKind.u64.bits)))+e1))).tdiv (IntKind.u64.wrap ((IntKind.u64.wrap (e2*2^(min (Int.toNat (32:Int)) IntKind.u64.bits)))+e3))))).fdiv (2^(min (Int.toNat (32:Int)) IntKind.u64.bits)))),((a1.Below !=b.Below)&&((IntKind.u64.wrap (((IntKind.u64.wrap ((IntKind.u64.wrap (e*2^(min (Int.toNat (32:Int)) IntKind.u64.bits)))+e1))).tdiv (IntKind.u64.wrap ((IntKind.u64.wrap (e2*2^(min (Int.toNat (32:Int)) IntKind.u64.bits)))+e3)))) !=(0:Int)))⟩:eN)

def iQ(op:Int)(a1:ac)(b:ac):Option (ac×Int):=
  (dJ a1).bind fun r=>
  (if(!(!r))then((dJ b).bind fun r1=>
  some (!r1))else some true).bind fun t=>
  if t then
  (some ((⟨(0:Int),(0:Int),(0:Int),[]⟩:ac),(120:Int)))
  else
  ((o5 a1).bind fun r2=>
  (if(!(!r2))then((o5 b).bind fun r3=>
  some (!r3))else some true).bind fun t1=>
  if t1 then
  (some ((⟨(0:Int),(0:Int),(0:Int),[]⟩:ac),(2:Int)))
  else
  (if((a1.Kind==(0:Int))||(b.Kind==(0:Int)))then
  (some ((⟨(0:Int),(0:Int),(0:Int),[]⟩:ac),(0:Int)))
  else
  (if(op==(43:Int))then
  ((fN a1.N).bind fun r4=>
  (fN b.N).bind fun r5=>
  (mu r4 r5).bind fun r6=>
  (iH r6).bind fun r7=>
  if(!r7.2)then
  (some ((⟨(0:Int),(0:Int),(0:Int),[]⟩:ac),(140:Int)))
  else
  ((j8 r7.1).bind fun r8=>
  some (r8,(0:Int))))
  else
  (if(op==(45:Int))then
  ((fN a1.N).bind fun r9=>
  (fN b.N).bind fun r10=>
  (r0 r10).bind fun r11=>
  (mu r9 r11).bind fun r12=>
  (iH r12).bind fun r13=>
  if(!r13.2)then
  (some ((⟨(0:Int),(0:Int),(0:Int),[]⟩:ac),(140:Int)))
  else
  ((j8 r13.1).bind fun r14=>
  some (r14,(0:Int))))
  else
  (if(op==(42:Int))then
  ((fN a1.N).bind fun r15=>
  (fN b.N).bind fun r16=>
  (tU r15 r16).bind fun r17=>
  (iH r17).bind fun r18=>
  if(!r18.2)then
  (some ((⟨(0:Int),(0:Int),(0:Int),[]⟩:ac),(140:Int)))
  else
  ((j8 r18.1).bind fun r19=>
  some (r19,(0:Int))))
  else
  (if(b.N==(0:Int))then
  (some ((⟨(0:Int),(0:Int),(0:Int),[]⟩:ac),(140:Int)))
  else
  ((fN a1.N).bind fun r20=>
  (fN b.N).bind fun r21=>
  (nK r20 r21).bind fun r22=>
  (iH r22).bind fun r23=>
  if(!r23.2)then
  (some ((⟨(0:Int),(0:Int),(0:Int),[]⟩:ac),(140:Int)))
  else
  ((j8 r23.1).bind fun r24=>
  some (r24,(0:Int))))))))))

def ky(b:Bool):Option ac:=
 if b then
 (some (⟨(1:Int),(1:Int),(0:Int),[]⟩:ac))
 else
 (some (⟨(1:Int),(0:Int),(0:Int),[]⟩:ac))

def pS(a1:ac)(b:ac):Option Int:=
  (dJ a1).bind fun r=>
  (if(!(!r))then((dJ b).bind fun r1=>
  some (!r1))else some true).bind fun t=>
  if t then
  (some (120:Int))
  else
  (if((decide ((1:Int)<a1.Kind))||(decide ((1:Int)<b.Kind)))then
  (some (2:Int))
  else
  (some (0:Int)))

def iZ(a1:ac):Option (ac×Int):=
  (pS a1 a1).bind fun r=>
  if((r !=(0:Int))||(a1.Kind==(0:Int)))then
  (some ((⟨(0:Int),(0:Int),(0:Int),[]⟩:ac),r))
  else
  ((ky (a1.N==(0:Int))).bind fun r1=>
  some (r1,(0:Int)))

def sv(a1:ac)(b:ac):Option (ac×Int):=
  (pS a1 b).bind fun r=>
  (ky false).bind fun r1=>
  if(r !=(0:Int))then
  (some ((⟨(0:Int),(0:Int),(0:Int),[]⟩:ac),r))
  else
  (if((decide (a1=r1))||(decide (b=r1)))then
  (some (r1,(0:Int)))
  else
  (if((a1.Kind==(0:Int))||(b.Kind==(0:Int)))then
  (some ((⟨(0:Int),(0:Int),(0:Int),[]⟩:ac),(0:Int)))
  else
  ((ky true).bind fun r2=>
  some (r2,(0:Int)))))

def w8(a1:ac)(b:ac):Option (ac×Int):=
  (pS a1 b).bind fun r=>
  if(r !=(0:Int))then
  (some ((⟨(0:Int),(0:Int),(0:Int),[]⟩:ac),r))
  else
  ((iZ a1).bind fun r1=>
  (iZ b).bind fun r2=>
  (sv r1.1 r2.1).bind fun r3=>
  (iZ r3.1).bind fun r4=>
  some (r4.1,r4.2))

def sY(a1:ac)(b:ac):Option Int:=
  (dJ a1).bind fun r=>
  (if(!(!r))then((dJ b).bind fun r1=>
  some (!r1))else some true).bind fun t=>
  if t then
  (some (120:Int))
  else
  ((md a1).bind fun r2=>
  (if(!(!r2))then((md b).bind fun r3=>
  some (!r3))else some true).bind fun t1=>
  if(t1||(((a1.Kind !=(0:Int))&&(b.Kind !=(0:Int)))&&(a1.Kind !=b.Kind)))then
  (some (2:Int))
  else
  (some (0:Int)))

def lM(a1:ac)(b:ac):Nat→Int→Option Int
  |0,_=>none
  |n+1,i=>
    if((decide (i<(a1.S.length:Int)))&&(decide (i<(b.S.length:Int))))then
    ((Py a1.S i).bind fun b1=>
    (Py b.S i).bind fun b2=>
    if(b1 !=b2)then
    ((Py a1.S i).bind fun b3=>
    (Py b.S i).bind fun b4=>
    if(decide (b3<b4))then
    (some (-1:Int))
    else
    (some (1:Int)))
    else
    ((lM a1 b n) (IntKind.i64.wrap (i+(1:Int)))))
    else
    (if((a1.S.length:Int) !=(b.S.length:Int))then
    (if(decide ((a1.S.length:Int)<(b.S.length:Int)))then
    (some (-1:Int))
    else
    (some (1:Int)))
    else
    (some (0:Int)))

def oD(a1:ac)(b:ac):Option Int:=
  (md a1).bind fun r=>
  (if(!(!r))then((md b).bind fun r1=>
  some (!r1))else some true).bind fun t=>
  if t then
  (some (0:Int))
  else
  (if(a1.Kind !=b.Kind)then
  (if(decide (a1.Kind<b.Kind))then
  (some (-1:Int))
  else
  (some (1:Int)))
  else
  (if(a1.N !=b.N)then
  (if(decide (a1.N<b.N))then
  (some (-1:Int))
  else
  (some (1:Int)))
  else
  (lM a1 b gX (0:Int))))

def rd(a1:ac)(b:ac):Option (ac×Int):=
  (sY a1 b).bind fun r=>
  if(((r !=(0:Int))||(a1.Kind==(0:Int)))||(b.Kind==(0:Int)))then
  (some ((⟨(0:Int),(0:Int),(0:Int),[]⟩:ac),r))
  else
  ((oD a1 b).bind fun r1=>
  (ky (r1==(0:Int))).bind fun r2=>
  some (r2,(0:Int)))

def mv(a1:ac)(b:ac):Option (ac×Int):=
  (sY a1 b).bind fun r=>
  if(((r !=(0:Int))||(a1.Kind==(0:Int)))||(b.Kind==(0:Int)))then
  (some ((⟨(0:Int),(0:Int),(0:Int),[]⟩:ac),r))
  else
  ((oD a1 b).bind fun r1=>
  (ky (decide (r1<(0:Int)))).bind fun r2=>
  some (r2,(0:Int)))

def Ep(tag:Int)(a1:ac)(b:ac):Option (ac×Int):=
  if(tag==(16:Int))then
  ((rd a1 b).bind fun r=>
  some (r.1,r.2))
  else
  (if(tag==(18:Int))then
  ((mv a1 b).bind fun r1=>
  some (r1.1,r1.2))
  else
  (if(tag==(20:Int))then
  ((mv b a1).bind fun r2=>
  some (r2.1,r2.2))
  else
  (if(tag==(17:Int))then
  ((rd a1 b).bind fun r3=>
  (iZ r3.1).bind fun r4=>
  some (r4.1,r3.2))
  else
  (if(tag==(19:Int))then
  ((mv b a1).bind fun r5=>
  (iZ r5.1).bind fun r6=>
  some (r6.1,r5.2))
  else
  ((mv a1 b).bind fun r7=>
  (iZ r7.1).bind fun r8=>
  some (r8.1,r7.2))))))

def Eo(tag:Int)(a1:ac)(b:ac):Option (ac×Int):=
  if(tag==(4:Int))then
  ((j8 (0:Int)).bind fun r=>
  (iQ (45:Int) r a1).bind fun r1=>
  some (r1.1,r1.2))
  else
  (if(tag==(12:Int))then
  ((iQ (43:Int) a1 b).bind fun r2=>
  some (r2.1,r2.2))
  else
  (if(tag==(13:Int))then
  ((iQ (45:Int) a1 b).bind fun r3=>
  some (r3.1,r3.2))
  else
  (if(tag==(14:Int))then
  ((iQ (42:Int) a1 b).bind fun r4=>
  some (r4.1,r4.2))
  else
  (if(tag==(15:Int))then
  ((iQ (47:Int) a1 b).bind fun r5=>
  some (r5.1,r5.2))
  else
  (if(tag==(5:Int))then
  ((iZ a1).bind fun r6=>
  some (r6.1,r6.2))
  else
  (if(tag==(22:Int))then
  ((sv a1 b).bind fun r7=>
  some (r7.1,r7.2))
  else
  (if(tag==(23:Int))then
  ((w8 a1 b).bind fun r8=>
  some (r8.1,r8.2))
  else
  (if(tag==(6:Int))then
  ((ky (a1.Kind==(0:Int))).bind fun r9=>
  some (r9,(0:Int)))
  else
  (if(tag==(7:Int))then
  ((ky (a1.Kind !=(0:Int))).bind fun r10=>
  some (r10,(0:Int)))
  else
  ((Ep tag a1 b).bind fun r11=>
  some (r11.1,r11.2)))))))))))

def qS(nx1:(List ac)→ac→Option (ac×Int))(e2:aX)(own:List ac)(x1:ac)(e5:ac)(b4:ac):Option (ac×Int):=
  (Eo e2.Tag e5 b4).bind fun r2=>
  if(r2.2==(140:Int))then
  (some ((⟨(0:Int),(0:Int),(0:Int),[]⟩:ac),r2.2))
  else
  (if(r2.2 !=(0:Int))then
  (some ((⟨(0:Int),(0:Int),(0:Int),[]⟩:ac),(201:Int)))
  else
  ((app own ([r2.1])).bind fun own3=>
  nx1 own3 x1))

def da(r:(List ac)):List aX→(List ac)→ac→Option (ac×Int)
  |[],own,x1=>
    (cN own (IntKind.i64.wrap ((own.length:Int)-(1:Int)))).bind fun e3=>
    some (e3,(0:Int))
  |e2::tl1,own,x1=>
    if(e2.Tag==(1:Int))then
    ((app own ([e2.Value])).bind fun own1=>
    (da r tl1) own1 x1)
    else
    (if(e2.Tag==(2:Int))then
    ((cN r e2.Col).bind fun e4=>
    (app own ([e4])).bind fun own2=>
    (da r tl1) own2 x1)
    else
    ((cN own e2.L).bind fun e5=>
    if(decide ((0:Int)≤e2.R))then
    ((cN own e2.R).bind fun e6=>
    qS (da r tl1) e2 own x1 e5 e6)
    else
    (qS (da r tl1) e2 own x1 e5 (⟨(0:Int),(0:Int),(0:Int),[]⟩:ac))))

def qR(e:br)(r:(List ac)):List aX→ac→Option (ac×Int)
  |[],x=>
    da r e.Nodes ([]:List ac) x
  |e1::tl,x=>
    (if(e1.Tag==(2:Int))then((if(!(decide ((r.length:Int)≤e1.Col)))then((cN r e1.Col).bind fun e7=>
    (md e7).bind fun r3=>
    some (!r3))else some true).bind fun t1=>
    some t1)else some false).bind fun t=>
    if t then
    (some ((⟨(0:Int),(0:Int),(0:Int),[]⟩:ac),(2:Int)))
    else
    ((qR e r tl) x)

def zA(e:br)(r:(List ac)):Option (ac×Int):=
 (tS e).bind fun r1=>
 if(!r1)then
 (some ((⟨(0:Int),(0:Int),(0:Int),[]⟩:ac),(200:Int)))
 else
 (qR e r e.Nodes (⟨(0:Int),(0:Int),(0:Int),[]⟩:ac))

def ra(v:ac):Option Bool:=
 (dJ v).bind fun r=>
 some (r&&((v.Kind==(0:Int))||(v.Kind==(4:Int))))

def xQ(a1:eN):Option (ac×Int):=
 (vM a1).bind fun r=>
 if(!r.2.2)then
 (some ((⟨(0:Int),(0:Int),(0:Int),[]⟩:ac),(140:Int)))
 else
 (some ((⟨(4:Int),r.1,r.2.1,[]⟩:ac),(0:Int)))

def su(s:ac)(v:ac):Option (ac×Int):=
  (dJ s).bind fun r=>
  (if(!(!r))then((dJ v).bind fun r1=>
  some (!r1))else some true).bind fun t=>
  if t then
  (some ((⟨(0:Int),(0:Int),(0:Int),[]⟩:ac),(120:Int)))
  else
  ((ra s).bind fun r2=>
  (if(!(!r2))then((o5 v).bind fun r3=>
  some (!r3))else some true).bind fun t1=>
  if t1 then
  (some ((⟨(0:Int),(0:Int),(0:Int),[]⟩:ac),(2:Int)))
  else
  (if(v.Kind==(0:Int))then
  (some (s,(0:Int)))
  else
  (if(s.Kind==(0:Int))then
  ((fN v.N).bind fun r4=>
  (xQ r4).bind fun r5=>
  some (r5.1,r5.2))
  else
  ((rb s.N s.U).bind fun r6=>
  (fN v.N).bind fun r7=>
  (mu r6 r7).bind fun r8=>
  (xQ r8).bind fun r9=>
  some (r9.1,r9.2)))))

def uW(s:ac):Option (ac×Int):=
  (dJ s).bind fun r=>
  if(!r)then
  (some ((⟨(0:Int),(0:Int),(0:Int),[]⟩:ac),(120:Int)))
  else
  ((ra s).bind fun r1=>
  if(!r1)then
  (some ((⟨(0:Int),(0:Int),(0:Int),[]⟩:ac),(2:Int)))
  else
  (if(s.Kind==(0:Int))then
  (some (s,(0:Int)))
  else
  ((rb s.N s.U).bind fun r2=>
  (iH r2).bind fun r3=>
  if(!r3.2)then
  (some ((⟨(0:Int),(0:Int),(0:Int),[]⟩:ac),(140:Int)))
  else
  ((j8 r3.1).bind fun r4=>
  some (r4,(0:Int))))))

def gR(nx:Int→Int→ac→ac→ac→Option (ac×Int))(n1:Int)(fault1:Int)(x1:ac)(sum1:ac)(best1:ac):Option (ac×Int):=
 nx n1 fault1 x1 sum1 best1

def mp(a1:ea)(nx:Int→Int→ac→ac→ac→Option (ac×Int))(n:Int)(fault:Int)(x:ac)(best:ac)(r3:ac×Int)(sum2:ac):Option (ac×Int):=
  (if(!((IntKind.i64.wrap (n+(1:Int)))==(1:Int)))then((if(a1.Tag==(4:Int))then((pp r3.1 best).bind fun r4=>
  some (decide (r4<(0:Int))))else some false).bind fun t1=>
  some t1)else some true).bind fun t=>
  (if(!t)then((if(a1.Tag==(5:Int))then((pp r3.1 best).bind fun r5=>
  some (decide ((0:Int)<r5)))else some false).bind fun t3=>
  some t3)else some true).bind fun t2=>
  if t2 then
  (gR nx (IntKind.i64.wrap (n+(1:Int))) fault x sum2 r3.1)
  else
  (gR nx (IntKind.i64.wrap (n+(1:Int))) fault x sum2 best)

def fQ(a1:ea):List (List ac)→Int→Int→ac→ac→ac→Option (ac×Int)
  |[],n,fault,x,sum,best=>
    if(fault !=(0:Int))then
    (some ((⟨(0:Int),(0:Int),(0:Int),[]⟩:ac),fault))
    else
    (if(a1.Tag==(2:Int))then
    ((j8 n).bind fun r1=>
    some (r1,(0:Int)))
    else
    (if(a1.Tag==(3:Int))then
    ((uW sum).bind fun r2=>
    some (r2.1,r2.2))
    else
    (some (best,(0:Int)))))
  |e::tl,n,fault,x,sum,best=>
    (zA a1.Arg e).bind fun r3=>
    if(r3.2==(140:Int))then
    (gR (fQ a1 tl) n r3.2 x sum best)
    else
    (if((r3.2 !=(0:Int))||(((a1.Tag==(3:Int))&&(r3.1.Kind !=(0:Int)))&&(r3.1.Kind !=(2:Int))))then
    (some ((⟨(0:Int),(0:Int),(0:Int),[]⟩:ac),(2:Int)))
    else
    (if(r3.1.Kind==(0:Int))then
    (gR (fQ a1 tl) n fault x sum best)
    else
    (if(a1.Tag==(3:Int))then
    ((su sum r3.1).bind fun r6=>
    mp a1 (fQ a1 tl) n fault x best r3 r6.1)
    else
    (mp a1 (fQ a1 tl) n fault x best r3 sum))))

def rD(a1:ea)(l:(List (List ac))):Option (ac×Int):=
  if(a1.Tag==(1:Int))then
  ((j8 (l.length:Int)).bind fun r=>
  some (r,(0:Int)))
  else
  (fQ a1 l (0:Int) (0:Int) (⟨(0:Int),(0:Int),(0:Int),[]⟩:ac) (⟨(0:Int),(0:Int),(0:Int),[]⟩:ac) (⟨(0:Int),(0:Int),(0:Int),[]⟩:ac))

def uw(r:(List ac)):List Int→(List ac)→Option (List ac)
 |[],out=>
  some out
 |e::tl,out=>
  (cN r e).bind fun e1=>
  (app out ([e1])).bind fun out1=>
  (uw r tl) out1

def cY(f:(aX→Option Bool)):List aX→Nat→Option Int
 |[],i=>
  some (-1:Int)
 |e::tl,i=>
  (f e).bind fun r=>
  if r then
  (some (i:Int))
  else
  ((cY f tl) (i+1))

def gr(s:(List aX))(f:(aX→Option Bool)):Option Int:=
 cY f s 0

def fL(s:(List aX))(f:(aX→Option Bool)):Option Bool:=
 (gr s f).bind fun r=>
 some (decide ((0:Int)≤r))

def xq(n:aX):Option Bool:=
 (rJ n.Tag).bind fun r=>
 some r

def BZ(e:br):Option Bool:=
  (pe e).bind fun r=>
  (if(r==(0:Int))then((fL e.Nodes xq).bind fun r1=>
  some (!r1))else some false).bind fun t=>
  some t

def gj(e:br):Option Bool:=
  (if(decide ((0:Int)<(e.Nodes.length:Int)))then((BZ e).bind fun r=>
  some (!r))else some false).bind fun t=>
  some t

def oe(unsafe1:(br→Option Bool))(a1:ea):Option Bool:=
  (if(!(a1.Tag==(3:Int)))then((unsafe1 a1.Arg).bind fun r=>
  some r)else some true).bind fun t=>
  some t

def dl(f:(br→Option Bool)):List br→Nat→Option Int
 |[],i=>
  some (-1:Int)
 |e::tl,i=>
  (f e).bind fun r=>
  if r then
  (some (i:Int))
  else
  ((dl f tl) (i+1))

def gO(s:(List br))(f:(br→Option Bool)):Option Int:=
 dl f s 0

def ed(s:(List br))(f:(br→Option Bool)):Option Bool:=
 (gO s f).bind fun r=>
 some (decide ((0:Int)≤r))

def dI(f:(ea→Option Bool)):List ea→Nat→Option Int
 |[],i=>
  some (-1:Int)
 |e::tl,i=>
  (f e).bind fun r=>
  if r then
  (some (i:Int))
  else
  ((dI f tl) (i+1))

def il(s:(List ea))(f:(ea→Option Bool)):Option Int:=
 dI f s 0

def eG(s:(List ea))(f:(ea→Option Bool)):Option Bool:=
 (il s f).bind fun r=>
 some (decide ((0:Int)≤r))

def oH:List am→Option Bool
  |[]=>
    some true
  |e::tl=>
    (gj e.Cond).bind fun r1=>
    (if(!r1)then((ed e.Items gj).bind fun r2=>
    some r2)else some true).bind fun t=>
    (if(!t)then((eG e.Aggs (oe gj)).bind fun r3=>
    some r3)else some true).bind fun t1=>
    if t1 then
    (some false)
    else
    ((oH tl))

def vQ(l:bN):Option Bool:=
 (pu l).bind fun r=>
 if(r.2 !=(0:Int))then
 (some false)
 else
 (oH l.Nodes)

def js(r5:(List Int)×Int)(nx:Option Bool):List ac→Nat→Option Bool
  |[],i1=>
    nx
  |e1::tl1,i1=>
    (if(e1.Kind !=(0:Int))then((cN r5.1 (i1:Int)).bind fun e2=>
    some (e1.Kind !=e2))else some false).bind fun t3=>
    if t3 then
    (some false)
    else
    ((js r5 nx tl1) (i1+1))

def hT(r5:(List Int)×Int):List (List ac)→Option Bool
 |[]=>
  some true
 |e::tl=>
  if((e.length:Int) !=(r5.1.length:Int))then
  (some false)
  else
  (js r5 (hT r5 tl) e 0)

def nr(l:bN)(b:eD):Option Bool:=
  (tY).bind fun r=>
  if(!r)then
  (some false)
  else
  ((p5 b).bind fun r1=>
  (if(!r1)then((vR l b).bind fun r2=>
  some r2)else some true).bind fun t=>
  if t then
  (some true)
  else
  ((j5 l b).bind fun r3=>
  if(r3.2 !=(0:Int))then
  ((if((r3.1.length:Int)==(0:Int))then((if(!(r3.2 !=(140:Int)))then((vQ l).bind fun r4=>
  some (!r4))else some true).bind fun t2=>
  some t2)else some false).bind fun t1=>
  some t1)
  else
  ((pt l).bind fun r5=>
  if(r5.2 !=(0:Int))then
  (some false)
  else
  (hT r5 r3.1))))

end Go.Proofs.YtfhhakidodmdfaaGreatDoor

