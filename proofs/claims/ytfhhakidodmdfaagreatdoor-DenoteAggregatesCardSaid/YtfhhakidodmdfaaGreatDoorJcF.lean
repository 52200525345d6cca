/- di of this claim: F. -/
import Derived.Test.YtfhhakidodmdfaaGreatDoorJcD
import Derived.Test.YtfhhakidodmdfaaGreatDoorJcV4
set_option linter.all false
namespace Go.Proofs.YtfhhakidodmdfaaGreatDoor
open Go

def fZ(f:(Int→Option Bool)):List Int→Nat→Option Int
 |[],i=>
  some (-1:Int)
 |e::tl,i=>
  (f e).bind fun r=>
  if r then
  (some (i:Int))
  else
  ((fZ f tl) (i+1))

def lK(s:(List Int))(f:(Int→Option Bool)):Option Int:=
 fZ f s 0

def cO(s:(List Int))(f:(Int→Option Bool)):Option Bool:=
 (lK s f).bind fun r=>
 some (decide ((0:Int)≤r))

def C5(k:Int):Option Bool:=
 some (((k==(1:Int))||(k==(2:Int)))||(k==(3:Int)))

def jF(k:Int):Option Bool:=
 (C5 k).bind fun r=>
 some (!r)

def gp(c:aI)(n:ay):Option ((List Int)×Bool):=
  (if((((decide ((0:Int)≤n.Table))&&(decide (n.Table<(4:Int))))&&(decide ((1:Int)≤(n.Kinds.length:Int))))&&(decide ((n.Kinds.length:Int)≤(4:Int))))then((cO n.Kinds jF).bind fun r=>
  some (!r))else some false).bind fun t=>
  some (n.Kinds,t)

def mK(s:List Int):Option (List Int):=
 some s

def mL(n:Int):Option (List Int):=
  if(decide ((0:Int)<(IntKind.i64.wrap (n-(IntKind.i64.wrap ((0:Int)-(0:Int)))))))then
  ((WZ (IntKind.i64.wrap (n-(IntKind.i64.wrap ((0:Int)-(0:Int)))))).bind fun _=>
  (nR (IntKind.i64.wrap (n-(IntKind.i64.wrap ((0:Int)-(0:Int))))) (0:Int)).bind fun mk=>
  (dP mk 0 (0:Int)).bind fun y=>
  mK y)
  else
  (mK ([]:List Int))

def lT(n:Int):Option (List Int):=
 if(decide (n<(0:Int)))then
 (none)
 else
 (mL n)

def jy:List (List Int)→(List Int)→Option (List Int)
 |[],newslice=>
  some newslice
 |e1::tl1,newslice=>
  (app newslice e1).bind fun newslice1=>
  (jy tl1) newslice1

def jz(slices:(List (List Int))):List (List Int)→Int→Option (List Int)
 |[],size=>
  (lT size).bind fun r=>
  jy slices r
 |e::tl,size=>
  if(decide ((IntKind.i64.wrap (size+(e.length:Int)))<(0:Int)))then
  (none)
  else
  ((jz slices tl) (IntKind.i64.wrap (size+(e.length:Int))))

def jg(slices:(List (List Int))):Option (List Int):=
 jz slices slices (0:Int)

def pE(tag:Int):Option Int:=
  if((tag==(1:Int))||(tag==(2:Int)))then
  (some (0:Int))
  else
  (if((decide ((4:Int)≤tag))&&(decide (tag≤(7:Int))))then
  (some (1:Int))
  else
  (if((decide ((12:Int)≤tag))&&(decide (tag≤(23:Int))))then
  (some (2:Int))
  else
  (some (-1:Int))))

def kQ(v1:ac):Option ac:=
 some v1

def qd(v2:ac):Option ac:=
 kQ (ac.mk (0:Int) v2.N v2.U v2.S)

def qc(v:ac):Option ac:=
 qd (ac.mk v.Kind (0:Int) v.U v.S)

def qb(v3:ac):Option ac:=
 kQ v3

def xE(v:ac):Option ac:=
  if(v.Kind==(1:Int))then
  (if((v.N !=(0:Int))&&(v.N !=(1:Int)))then
  (kQ v)
  else
  (qc v))
  else
  (if(v.Kind==(2:Int))then
  (qc v)
  else
  (if(v.Kind==(0:Int))then
  (qd v)
  else
  (if(v.Kind==(3:Int))then
  (if(decide ((v.S.length:Int)≤(40:Int)))then
  (qb (ac.mk (0:Int) v.N v.U ([])))
  else
  (qb v))
  else
  (if(v.Kind==(4:Int))then
  (kQ (ac.mk (0:Int) (0:Int) (0:Int) v.S))
  else
  (kQ v)))))

def ln(v:ac):Option Int:=
 (xE v).bind fun r=>
 if(!decide (r=(⟨(0:Int),(0:Int),(0:Int),[]⟩:ac)))then
 (some (120:Int))
 else
 (some (0:Int))

def mC(v:ac):Option Bool:=
 (ln v).bind fun r=>
 some ((r==(0:Int))&&(v.Kind !=(4:Int)))

def uP(n:bC):Option Bool:=
  if(n.Tag==(1:Int))then
  ((mC n.Value).bind fun r=>
  some (r&&(n.Col==(0:Int))))
  else
  (if(n.Tag==(2:Int))then
  (some (((decide (n.Value=(⟨(0:Int),(0:Int),(0:Int),[]⟩:ac)))&&(decide ((0:Int)≤n.Col)))&&(decide (n.Col<(16:Int)))))
  else
  (some ((decide (n.Value=(⟨(0:Int),(0:Int),(0:Int),[]⟩:ac)))&&(n.Col==(0:Int)))))

def mo(nx:Nat→(List Int)→(List Int)→Option ((List Int)×Bool))(i:Nat)(e1:bC)(all:List Int)(open1:List Int)(r:Int):List Int→Nat→Int→(List Int)→Option ((List Int)×Bool)
  |[],i1,first,at1=>
    if(!decide (at1=([e1.L,e1.R])))then
    (some ([],false))
    else
    ((app all ([first])).bind fun all1=>
    (dP open1 0 (IntKind.i64.wrap ((open1.length:Int)-r))).bind fun y1=>
    (app y1 ([(i:Int)])).bind fun open2=>
    nx (i+1) all1 open2)
  |e2::tl1,i1,first,at1=>
    (de all e2).bind fun e3=>
    (de at1 (i1:Int)).bind fun e4=>
    (some (at1.set (i1:Int).toNat e2)).bind fun ar=>
    (mo nx i e1 all open1 r tl1) (i1+1) (min first e3) ar

def kW:List bC→Nat→(List Int)→(List Int)→Option ((List Int)×Bool)
  |[],i,all,open1=>
    some (all,(((open1.length:Int)==(1:Int))&&(decide ((all.length:Int)≤(1000:Int)))))
  |e1::tl,i,all,open1=>
    (pE e1.Tag).bind fun r=>
    (if(!((decide (r<(0:Int)))||(decide ((open1.length:Int)<r))))then((uP e1).bind fun r1=>
    some (!r1))else some true).bind fun t=>
    if t then
    (some ([],false))
    else
    ((dP open1 (IntKind.i64.wrap ((open1.length:Int)-r)) (open1.length:Int)).bind fun y=>
    mo (kW tl) i e1 all open1 r y 0 (i:Int) ([(-1:Int),(-1:Int)]))

def yg(e:bS):Option ((List Int)×Bool):=
 kW e.Nodes 0 ([]:List Int) ([]:List Int)

def ol(e:bS):Option Int:=
 (yg e).bind fun r=>
 if(!r.2)then
 (some (200:Int))
 else
 (some (0:Int))

def eD(i:Nat)(y:List Int):Nat→Nat→(List Int)→Int→Option (List Int)
  |0,i1,s1,k=>
    (dP s1 k (s1.length:Int)).bind fun y1=>
    (some (s1.take k.toNat++List.replicate y1.length (0:Int))).bind fun cl=>
    (dP cl 0 k).bind fun y2=>
    some y2
  |k2+1,i1,s1,k=>
    (ya s1 (i:Int) y.length (i1:Int)).bind fun e3=>
    (ya s1 (i:Int) y.length (IntKind.i64.wrap ((i1:Int)-(1:Int)))).bind fun e4=>
    if(e3 !=e4)then
    ((ya s1 (i:Int) y.length (i1:Int)).bind fun e5=>
    (de s1 k).bind fun e6=>
    (some (s1.set k.toNat e5)).bind fun st=>
    (eD i y k2) (i1+1) st (IntKind.i64.wrap (k+(1:Int))))
    else
    ((eD i y k2) (i1+1) s1 k)

def fh(s:(List Int)):List Int→Nat→Option (List Int)
  |[],i=>
    some s
  |e::tl,i=>
    (de s (IntKind.i64.wrap ((i:Int)-(1:Int)))).bind fun e1=>
    if(e==e1)then
    ((dP s (i:Int) (s.length:Int)).bind fun y=>
    eD i y (y.length-1) 1 s (i:Int))
    else
    ((fh s tl) (i+1))

def km(s:(List Int)):Option (List Int):=
 if(decide ((s.length:Int)<(2:Int)))then
 (some s)
 else
 (fh s (s.drop (1)) 1)

def mY:List bC→(List Int)→Option (List Int)
  |[],out=>
    (Ep out).bind fun u0=>
    (km u0).bind fun r1=>
    some r1
  |e1::tl,out=>
    if(e1.Tag==(2:Int))then
    ((app out ([e1.Col])).bind fun out1=>
    (mY tl) out1)
    else
    ((mY tl) out)

def tm(e:bS):Option (List Int):=
 (ol e).bind fun r=>
 if(r !=(0:Int))then
 (some ([]:List Int))
 else
 (mY e.Nodes ([]:List Int))

def cM(s:(List Int)):Option (List Int):=
 (app ([]:List Int) s).bind fun x=>
 some x

def pf(stack:(List Int))(k:Int):Option ((List Int)×(List Int)):=
 (dP stack (IntKind.i64.wrap ((stack.length:Int)-k)) (stack.length:Int)).bind fun y=>
 (cM y).bind fun r=>
 (dP stack 0 (IntKind.i64.wrap ((stack.length:Int)-k))).bind fun y1=>
 some (r,y1)

def mn(bad:Int)(stack:List Int):Option (Int×Int):=
  if(bad !=(0:Int))then
  (some ((0:Int),bad))
  else
  ((de stack (0:Int)).bind fun e1=>
  some (e1,(0:Int)))

def ip(do1:(bC→(List Int)→Option (Int×Int))):List bC→Int→(List Int)→Option (Int×Int)
  |[],bad1,stack1=>
    mn bad1 stack1
  |e2::tl,bad1,stack1=>
    (pE e2.Tag).bind fun r=>
    (pf stack1 r).bind fun r1=>
    (do1 e2 r1.1).bind fun r2=>
    if(r2.2 !=(0:Int))then
    (mn r2.2 r1.2)
    else
    ((app r1.2 ([r2.1])).bind fun l2=>
    (ip do1 tl) bad1 l2)

def o5(e:bS)(do1:(bC→(List Int)→Option (Int×Int))):Option (Int×Int):=
 ip do1 e.Nodes (0:Int) ([]:List Int)

def xa(tag:Int):Option Bool:=
 some ((tag==(4:Int))||((decide ((12:Int)≤tag))&&(decide (tag≤(15:Int)))))

def mp(kinds:(List Int))(n:bC):List Int→Int→Option (Int×Int)
  |[],own=>
    if(n.Tag==(1:Int))then
    (some (n.Value.Kind,(0:Int)))
    else
    (if(n.Tag==(2:Int))then
    ((de kinds n.Col).bind fun e1=>
    some (e1,(0:Int)))
    else
    ((xa n.Tag).bind fun r=>
    if r then
    (if((own==(-1:Int))||((own !=(0:Int))&&(own !=(2:Int))))then
    (some ((0:Int),(201:Int)))
    else
    (some ((2:Int),(0:Int))))
    else
    (if(((n.Tag==(5:Int))||(n.Tag==(22:Int)))||(n.Tag==(23:Int)))then
    (if((own==(-1:Int))||((own !=(0:Int))&&(own !=(1:Int))))then
    (some ((0:Int),(201:Int)))
    else
    (some ((1:Int),(0:Int))))
    else
    (if((own==(-1:Int))||((own !=(0:Int))&&(own !=own)))then
    (some ((0:Int),(201:Int)))
    else
    (some ((1:Int),(0:Int)))))))
  |e::tl,own=>
    if((e==(0:Int))||(e==own))then
    ((mp kinds n tl) own)
    else
    (if(own==(0:Int))then
    ((mp kinds n tl) e)
    else
    ((mp kinds n tl) (-1:Int)))

def jH(kinds:(List Int))(n:bC)(l:(List Int)):Option (Int×Int):=
 mp kinds n l (0:Int)

def mX(e:bS)(kinds:(List Int)):List Int→Option (Int×Int)
 |[]=>
  (o5 e (jH kinds)).bind fun r2=>
  some (r2.1,r2.2)
 |e2::tl1=>
  if(decide ((kinds.length:Int)≤e2))then
  (some ((0:Int),(2:Int)))
  else
  ((mX e kinds tl1))

def qx(e:bS)(kinds:(List Int)):List Int→Option (Int×Int)
 |[]=>
  (tm e).bind fun r1=>
  mX e kinds r1
 |e1::tl=>
  if((decide (e1<(0:Int)))||(decide ((3:Int)<e1)))then
  (some ((0:Int),(2:Int)))
  else
  ((qx e kinds tl))

def th(e:bS)(kinds:(List Int)):Option (Int×Int):=
 (ol e).bind fun r=>
 if(r !=(0:Int))then
 (some ((0:Int),r))
 else
 (qx e kinds kinds)

def sd(e:bS)(kinds:(List Int)):Option Bool:=
 (th e kinds).bind fun r=>
 some ((r.2==(0:Int))&&((r.1==(1:Int))||(r.1==(0:Int))))

def hX(c:aI)(n:ay):Option ((List Int)×Bool):=
 (de c.kinds n.A).bind fun e=>
 (de c.kinds n.B).bind fun e1=>
 (jg ([e,e1])).bind fun r=>
 (sd n.Cond r).bind fun r1=>
 some (r,r1)

def gq(c:aI)(n:ay):Option ((List Int)×Bool):=
 (de c.kinds n.A).bind fun e=>
 (sd n.Cond e).bind fun r=>
 some (e,r)

def qp(kinds:(List Int))(c:Int):Option Bool:=
 some ((decide (c<(0:Int)))||(decide ((kinds.length:Int)≤c)))

def sY(l:(List Int))(kinds:(List Int)):Option Bool:=
 (cO l (qp kinds)).bind fun r=>
 some (!r)

def s0(r:Int×Int)(x:Bool):Option (Int×Bool):=
 if x then
 (some (r.1,(r.2==(0:Int))))
 else
 (some ((0:Int),false))

def yO(a1:gv)(kinds:(List Int)):Option (Int×Bool):=
  if(a1.Tag==(1:Int))then
  (some ((2:Int),((a1.Arg.Nodes.length:Int)==(0:Int))))
  else
  ((th a1.Arg kinds).bind fun r=>
  if(a1.Tag==(2:Int))then
  (some ((2:Int),(r.2==(0:Int))))
  else
  (if(a1.Tag==(3:Int))then
  (some ((2:Int),((r.2==(0:Int))&&((r.1==(2:Int))||(r.1==(0:Int))))))
  else
  (if(a1.Tag==(4:Int))then
  (s0 r (a1.Tag==(4:Int)))
  else
  (s0 r (a1.Tag==(5:Int))))))

def fx(e:(List Int)):List gv→(List Int)→Bool→Option ((List Int)×Bool)
 |[],out1,ok=>
  some (out1,ok)
 |e2::tl1,out1,ok=>
  (yO e2 e).bind fun r1=>
  (app out1 ([r1.1])).bind fun out2=>
  (fx e tl1) out2 (ok&&r1.2)

def gG(n:ay)(e:(List Int))(t:Bool):List Int→(List Int)→Option ((List Int)×Bool)
 |[],out=>
  fx e n.Aggs out t
 |e1::tl,out=>
  (de e e1).bind fun e3=>
  (app out ([e3])).bind fun out3=>
  (gG n e t tl) out3

def gR(c:aI)(n:ay):Option ((List Int)×Bool):=
  (de c.kinds n.A).bind fun e=>
  (if(((decide ((n.Keys.length:Int)≤(3:Int)))&&(decide ((n.Aggs.length:Int)≤(12:Int))))&&(decide ((0:Int)<(IntKind.i64.wrap ((n.Keys.length:Int)+(n.Aggs.length:Int))))))then((sY n.Keys e).bind fun r=>
  some r)else some false).bind fun t=>
  if(!t)then
  (some ([],false))
  else
  (gG n e t n.Keys ([]:List Int))

def fP(c:aI)(n:ay):List bS→(List Int)→Bool→Option ((List Int)×Bool)
 |[],out,ok=>
  some (out,ok)
 |e::tl,out,ok=>
  (de c.kinds n.A).bind fun e1=>
  (th e e1).bind fun r=>
  (app out ([r.1])).bind fun out1=>
  (fP c n tl) out1 (ok&&(r.2==(0:Int)))

def fW(c:aI)(n:ay):Option ((List Int)×Bool):=
 fP c n n.Items ([]:List Int) ((decide ((1:Int)≤(n.Items.length:Int)))&&(decide ((n.Items.length:Int)≤(16:Int))))

def fy(c:aI)(n:ay):Option ((List Int)×Bool):=
 (de c.kinds n.A).bind fun e=>
 some (e,true)

def iM(nx:Nat→(List Int)→Bool→Option ((List Int)×Bool))(i:Nat)(e2:Int)(ok:Bool)(out1:List Int):Option ((List Int)×Bool):=
  (if ok then((de out1 (i:Int)).bind fun e3=>
  some ((e3==e2)||(e2==(0:Int))))else some false).bind fun t=>
  nx (i+1) out1 t

def dR:List Int→Nat→(List Int)→Bool→Option ((List Int)×Bool)
  |[],i,out,ok=>
    some (out,ok)
  |e2::tl,i,out,ok=>
    (de out (i:Int)).bind fun e4=>
    if(e4==(0:Int))then
    ((some (out.set (i:Int).toNat e2)).bind fun st=>
    iM (dR tl) i e2 ok st)
    else
    (iM (dR tl) i e2 ok out)

def gO(c:aI)(n:ay):Option ((List Int)×Bool):=
  (de c.kinds n.A).bind fun e=>
  (de c.kinds n.B).bind fun e1=>
  if((e.length:Int) !=(e1.length:Int))then
  (some ([],false))
  else
  ((cM e).bind fun r=>
  dR e1 0 r true)

def dV(f:(ig→Option Bool)):List ig→Nat→Option Int
 |[],i=>
  some (-1:Int)
 |e::tl,i=>
  (f e).bind fun r=>
  if r then
  (some (i:Int))
  else
  ((dV f tl) (i+1))

def iE(s:(List ig))(f:(ig→Option Bool)):Option Int:=
 dV f s 0

def eZ(s:(List ig))(f:(ig→Option Bool)):Option Bool:=
 (iE s f).bind fun r=>
 some (decide ((0:Int)≤r))

def kY(in1:(List Int))(o:ig):Option Bool:=
 some ((decide (o.Col<(0:Int)))||(decide ((in1.length:Int)≤o.Col)))

def gQ(c:aI)(n:ay):Option ((List Int)×Bool):=
  (de c.kinds n.A).bind fun e=>
  (if(decide ((n.Order.length:Int)≤(3:Int)))then((eZ n.Order (kY e)).bind fun r=>
  some (!r))else some false).bind fun t=>
  some (e,(((t&&(decide ((-1:Int)≤n.Limit)))&&(decide (n.Limit≤(2147483647:Int))))&&((c.kinds.length:Int)==(IntKind.i64.wrap ((c.Logic.Nodes.length:Int)-(1:Int))))))

def tR(n:ay):Option Bool:=
 some (((((((((n.Table==(0:Int))&&((n.Kinds.length:Int)==(0:Int)))&&(!n.Left))&&((n.Cond.Nodes.length:Int)==(0:Int)))&&((n.Keys.length:Int)==(0:Int)))&&((n.Aggs.length:Int)==(0:Int)))&&((n.Items.length:Int)==(0:Int)))&&((n.Order.length:Int)==(0:Int)))&&(n.Limit==(0:Int)))

def tS(n:ay):Option ay:=
  if(n.Op==(1:Int))then
  (some (ay.mk n.Op n.A n.B (0:Int) ([]) n.Left n.Cond n.Keys n.Aggs n.Items n.Order n.Limit))
  else
  (if(n.Op==(2:Int))then
  (some (ay.mk n.Op n.A n.B n.Table n.Kinds false (⟨[]⟩:bS) n.Keys n.Aggs n.Items n.Order n.Limit))
  else
  (if(n.Op==(3:Int))then
  (some (ay.mk n.Op n.A n.B n.Table n.Kinds n.Left (⟨[]⟩:bS) n.Keys n.Aggs n.Items n.Order n.Limit))
  else
  (if(n.Op==(4:Int))then
  (some (ay.mk n.Op n.A n.B n.Table n.Kinds n.Left n.Cond ([]) ([]) n.Items n.Order n.Limit))
  else
  (if(n.Op==(5:Int))then
  (some (ay.mk n.Op n.A n.B n.Table n.Kinds n.Left n.Cond n.Keys n.Aggs ([]) n.Order n.Limit))
  else
  (if(n.Op==(8:Int))then
  (some (ay.mk n.Op n.A n.B n.Table n.Kinds n.Left n.Cond n.Keys n.Aggs n.Items ([]) (0:Int)))
  else
  (some n))))))

def qq(x:Bool):Option Int:=
 if x then
 (some (2:Int))
 else
 (some (1:Int))

def uG(op:Int):Option Int:=
  if(op==(1:Int))then
  (some (0:Int))
  else
  (if(op==(2:Int))then
  (qq (op==(2:Int)))
  else
  (qq (op==(7:Int))))

def j8(c:aI)(i:Int):Option (Int×Bool):=
  (de c.Logic.Nodes i).bind fun e=>
  (uG e.Op).bind fun r=>
  if(r==(0:Int))then
  (some (i,((e.A==(-1:Int))&&(e.B==(-1:Int)))))
  else
  (if(r==(1:Int))then
  (if(((e.A !=(IntKind.i64.wrap (i-(1:Int))))||(e.B !=(-1:Int)))||(i==(0:Int)))then
  (some ((0:Int),false))
  else
  ((de c.first e.A).bind fun e1=>
  some (e1,true)))
  else
  ((if(!((e.B !=(IntKind.i64.wrap (i-(1:Int))))||(i==(0:Int))))then((de c.first e.B).bind fun e2=>
  some (e.A !=(IntKind.i64.wrap (e2-(1:Int)))))else some true).bind fun t=>
  if(t||(decide (e.A<(0:Int))))then
  (some ((0:Int),false))
  else
  ((de c.first e.A).bind fun e3=>
  some (e3,true))))

def gH{Sg:Type}(yld:(Int×Bool)→Sg→Option (Bool×Sg))(nx:Nat→Sg→aI→Option (Sg×aI))(i:Nat)(s1:Sg)(ok1:Bool)(kinds:(List Int))(ob2:aI):Option (Sg×aI):=
 (app ob2.kinds ([kinds])).bind fun l6=>
 (yld ((i:Int),(ok1&&(decide ((kinds.length:Int)≤(16:Int))))) s1).bind fun r2=>
 if((!r2.1)||(!(ok1&&(decide ((kinds.length:Int)≤(16:Int))))))then
 (some (r2.2,({ob2 with kinds:=l6}:aI)))
 else
 (nx (i+1) r2.2 ({ob2 with kinds:=l6}:aI))

def eJ{Sg:Type}(yld:(Int×Bool)→Sg→Option (Bool×Sg))(nx:Nat→Sg→aI→Option (Sg×aI))(i:Nat)(e2:ay)(s1:Sg)(ok:Bool)(ob1:aI):Option (Sg×aI):=
  if ok then
  ((((pw (dF (dF (dF (dF (dF (dF (dF (dF ([]:List (Int×(aI→ay→Option (((List Int)×Bool)×aI)))) (1:Int) (fun(mc:aI) (mx:ay)=>(gp mc mx).map fun mr=>(mr,mc))) (2:Int) (fun(mc:aI) (mx:ay)=>(hX mc mx).map fun mr=>(mr,mc))) (3:Int) (fun(mc:aI) (mx:ay)=>(gq mc mx).map fun mr=>(mr,mc))) (4:Int) (fun(mc:aI) (mx:ay)=>(gR mc mx).map fun mr=>(mr,mc))) (5:Int) (fun(mc:aI) (mx:ay)=>(fW mc mx).map fun mr=>(mr,mc))) (6:Int) (fun(mc:aI) (mx:ay)=>(fy mc mx).map fun mr=>(mr,mc))) (7:Int) (fun(mc:aI) (mx:ay)=>(gO mc mx).map fun mr=>(mr,mc))) (8:Int) (fun(mc:aI) (mx:ay)=>(gQ mc mx).map fun mr=>(mr,mc))) e2.Op).getD (fun _ _=>none)) ob1 (e2)).bind fun r3=>
  gH yld nx i s1 r3.1.2 r3.1.1 r3.2)
  else
  (gH yld nx i s1 ok ([]) ob1)

def bP{Sg:Type}(yld:(Int×Bool)→Sg→Option (Bool×Sg)):List ay→Nat→Sg→aI→Option (Sg×aI)
  |[],i,s1,ob=>
    some (s1,ob)
  |e2::tl,i,s1,ob=>
    (if((pw (dF (dF (dF (dF (dF (dF (dF (dF ([]:List (Int×(aI→ay→Option (((List Int)×Bool)×aI)))) (1:Int) (fun(mc:aI) (mx:ay)=>(gp mc mx).map fun mr=>(mr,mc))) (2:Int) (fun(mc:aI) (mx:ay)=>(hX mc mx).map fun mr=>(mr,mc))) (3:Int) (fun(mc:aI) (mx:ay)=>(gq mc mx).map fun mr=>(mr,mc))) (4:Int) (fun(mc:aI) (mx:ay)=>(gR mc mx).map fun mr=>(mr,mc))) (5:Int) (fun(mc:aI) (mx:ay)=>(fW mc mx).map fun mr=>(mr,mc))) (6:Int) (fun(mc:aI) (mx:ay)=>(fy mc mx).map fun mr=>(mr,mc))) (7:Int) (fun(mc:aI) (mx:ay)=>(gO mc mx).map fun mr=>(mr,mc))) (8:Int) (fun(mc:aI) (mx:ay)=>(gQ mc mx).map fun mr=>(mr,mc))) e2.Op).isSome)then((tS e2).bind fun r=>
    (tR r).bind fun r1=>
    some r1)else some false).bind fun t=>
    if t then
    ((j8 ob (i:Int)).bind fun r4=>
    (app ob.first ([r4.1])).bind fun l7=>
    eJ yld (bP yld tl) i e2 s1 r4.2 ({ob with first:=l7}:aI))
    else
    (eJ yld (bP yld tl) i e2 s1 t ob)

def lU{Sg:Type}(c:aI)(yld:(Int×Bool)→Sg→Option (Bool×Sg))(s:Sg):Option (Sg×aI):=
 bP yld c.Logic.Nodes 0 s c

def qr(c:aI):Option (PE (Int×Bool) aI):=
 some (fun _=>lU c)

def o4(x:Int×Bool)(x1:Bool)(x2:Int)(p:Bool):Option (Option Nat×(Bool×Int×Bool)):=
 if(!x.2)then
 (some (some 0,(false,x.1,true)))
 else
 (some (none,(x1,x2,p)))

def px(l:cm):Option (aI×Int×Bool):=
  if((decide ((l.Nodes.length:Int)<(1:Int)))||(decide ((60:Int)<(l.Nodes.length:Int))))then
  (some ((⟨l,[],[]⟩:aI),(0:Int),false))
  else
  ((qr (⟨l,[],[]⟩:aI)).bind fun it=>
  (it (Option Nat×(Bool×Int×Bool)) (xb (fun x s=>o4 x s.1 s.2.1 s.2.2)) (none,(false,(0:Int),false))).bind fun r=>
  if r.1.1.isNone then
  ((de r.2.first (IntKind.i64.wrap ((l.Nodes.length:Int)-(1:Int)))).bind fun e=>
  some (r.2,(IntKind.i64.wrap ((l.Nodes.length:Int)-(1:Int))),(e==(0:Int))))
  else
  ((isT r.1.2.2.2).bind fun _=>
  some (r.2,r.1.2.2.1,r.1.2.1)))

def sf(l:cm):Option (Int×Int):=
 (px l).bind fun r=>
 if(!r.2.2)then
 (some (r.2.1,(230:Int)))
 else
 (some ((0:Int),(0:Int)))

def mu(kinds:(List Int))(nx:Option Bool):List ac→Nat→Option Bool
  |[],i1=>
    nx
  |e1::tl1,i1=>
    (ln e1).bind fun r=>
    (if(!(r !=(0:Int)))then((if(e1.Kind !=(0:Int))then((de kinds (i1:Int)).bind fun e2=>
    some (e1.Kind !=e2))else some false).bind fun t1=>
    some t1)else some true).bind fun t=>
    if t then
    (some false)
    else
    ((mu kinds nx tl1) (i1+1))

def mv(kinds:(List Int)):List (List ac)→Option Bool
 |[]=>
  some true
 |e::tl=>
  if((e.length:Int) !=(kinds.length:Int))then
  (some false)
  else
  (mu kinds (mv kinds tl) e 0)

def sl(rows:(List (List ac)))(kinds:(List Int)):Option Bool:=
 if(decide ((12:Int)<(rows.length:Int)))then
 (some false)
 else
 (mv kinds rows)

def ov(b:kH):List ay→Option Bool
  |[]=>
    some true
  |e::tl=>
    (if(e.Op==(1:Int))then((if(!(decide ((b.Tables.length:Int)≤e.Table)))then((de b.Tables e.Table).bind fun e1=>
    (sl e1 e.Kinds).bind fun r1=>
    some (!r1))else some true).bind fun t1=>
    some t1)else some false).bind fun t=>
    if t then
    (some false)
    else
    ((ov b tl))

def uR(l:cm)(b:kH):Option Bool:=
 (sf l).bind fun r=>
 if(r.2 !=(0:Int))then
 (some false)
 else
 (ov b l.Nodes)

def se(l:cm):Option ((List Int)×Int):=
  (px l).bind fun r=>
  if(!r.2.2)then
  (some ([],(230:Int)))
  else
  ((de r.1.kinds r.2.1).bind fun e=>
  (cM e).bind fun r1=>
  some (r1,(0:Int)))

def lg(r:dh)(n:ay):Option ((List (List ac))×Int):=
 (de r.Base.Tables n.Table).bind fun e=>
 some (e,(0:Int))

def iF(s:List ac):Option (List ac):=
 some s

def iG(n:Int):Option (List ac):=
  if(decide ((0:Int)<(IntKind.i64.wrap (n-(IntKind.i64.wrap ((0:Int)-(0:Int)))))))then
  ((WZ (IntKind.i64.wrap (n-(IntKind.i64.wrap ((0:Int)-(0:Int)))))).bind fun _=>
  (nR (IntKind.i64.wrap (n-(IntKind.i64.wrap ((0:Int)-(0:Int))))) (⟨(0:Int),(0:Int),(0:Int),[]⟩:ac)).bind fun mk=>
  (dP mk 0 (0:Int)).bind fun y=>
  iF y)
  else
  (iF ([]:List ac))

def gT(n:Int):Option (List ac):=
 if(decide (n<(0:Int)))then
 (none)
 else
 (iG n)

def fk:List (List ac)→(List ac)→Option (List ac)
 |[],newslice=>
  some newslice
 |e1::tl1,newslice=>
  (app newslice e1).bind fun newslice1=>
  (fk tl1) newslice1

def fm(slices:(List (List ac))):List (List ac)→Int→Option (List ac)
 |[],size=>
  (gT size).bind fun r=>
  fk slices r
 |e::tl,size=>
  if(decide ((IntKind.i64.wrap (size+(e.length:Int)))<(0:Int)))then
  (none)
  else
  ((fm slices tl) (IntKind.i64.wrap (size+(e.length:Int))))

def dM(slices:(List (List ac))):Option (List ac):=
 fm slices slices (0:Int)

def gg{Sg:Type}(yld:(Int×(List ac))→Sg→Option (Bool×Sg))(nx:Nat→Sg→Option Sg)(i:Nat)(e2:(List ac)):List (List ac)→Sg→Option Sg
 |[],s2=>
  nx (i+1) s2
 |e4::tl1,s2=>
  (dM ([e2,e4])).bind fun r=>
  (yld ((i:Int),r) s2).bind fun r1=>
  if(!r1.1)then
  (some r1.2)
  else
  ((gg yld nx i e2 tl1) r1.2)

def dZ{Sg:Type}(b:(List (List ac)))(yld:(Int×(List ac))→Sg→Option (Bool×Sg)):List (List ac)→Nat→Sg→Option Sg
 |[],i,s1=>
  some s1
 |e2::tl,i,s1=>
  gg yld (dZ b yld tl) i e2 b s1

def mt{Sg:Type}(a1:(List (List ac)))(b:(List (List ac)))(yld:(Int×(List ac))→Sg→Option (Bool×Sg))(s:Sg):Option Sg:=
 dZ b yld a1 0 s

def wK(a1:(List (List ac)))(b:(List (List ac))):Option (It (Int×(List ac))):=
 some (fun _=>mt a1 b)

def lQ(do1:(ac→ac→Option (ac×Int)))(a1:ac)(b:ac):Option (ac×Int):=
 (do1 b a1).bind fun r=>
 some (r.1,r.2)

def Db(do1:(ac→ac→Option (ac×Int))):Option (ac→ac→Option (ac×Int)):=
 some (lQ do1)

def pm:Option ac:=
 some (⟨(0:Int),(0:Int),(0:Int),[]⟩:ac)

def uY(v:ac):Option ac:=
 some v

def pn(b:Bool):Option ac:=
 if b then
 (uY (ac.mk (⟨(1:Int),(0:Int),(0:Int),[]⟩:ac).Kind (1:Int) (⟨(1:Int),(0:Int),(0:Int),[]⟩:ac).U (⟨(1:Int),(0:Int),(0:Int),[]⟩:ac).S))
 else
 (uY (⟨(1:Int),(0:Int),(0:Int),[]⟩:ac))

def jC:List ac→Option Int
 |[]=>
  some (0:Int)
 |e::tl=>
  (ln e).bind fun r=>
  if(r !=(0:Int))then
  (some r)
  else
  ((jC tl))

def pJ(l:(List ac)):Option Int:=
 jC l

def nJ(p:Int):Option Bool:=
 some (p !=p)

def ja(p:Int)(y:Int):Option Int:=
  (nJ p).bind fun r=>
  (nJ y).bind fun r1=>
  if r then
  (if r1 then
  (some (0:Int))
  else
  (some (-1:Int)))
  else
  (if r1 then
  (some (1:Int))
  else
  (if(decide (p<y))then
  (some (-1:Int))
  else
  (if(decide (y<p))then
  (some (1:Int))
  else
  (some (0:Int)))))

def gx:List Int→Option Int
 |[]=>
  some (0:Int)
 |e::tl=>
  if(e !=(0:Int))then
  (some e)
  else
  ((gx tl))

def m6(vals:(List Int)):Option Int:=
 gx vals

def lh(p:Int):Option Bool:=
 some (p !=p)

def gU(p:Int)(y:Int):Option Int:=
  (lh p).bind fun r=>
  (lh y).bind fun r1=>
  if r then
  (if r1 then
  (some (0:Int))
  else
  (some (-1:Int)))
  else
  (if r1 then
  (some (1:Int))
  else
  (if(decide (p<y))then
  (some (-1:Int))
  else
  (if(decide (y<p))then
  (some (1:Int))
  else
  (some (0:Int)))))

def jp(a1:xc)(b:xc):Option Int:=
 some (Wj a1 b)

def o9(a1:xc)(b:xc):Option Int:=
 (jp a1 b).bind fun r=>
 some r

def lG(a1:ac)(b:ac):Option Int:=
  (mC a1).bind fun r=>
  (if(!(!r))then((mC b).bind fun r1=>
  some (!r1))else some true).bind fun t=>
  if t then
  (some (0:Int))
  else
  ((ja a1.Kind b.Kind).bind fun r2=>
  (gU a1.N b.N).bind fun r3=>
  (o9 a1.S b.S).bind fun r4=>
  (m6 ([r2,r3,r4])).bind fun r5=>
  some r5)

def qS(a1:ac)(b:ac)(is1:(Int→Option Bool)):Option (ac×Int):=
  (pJ ([a1,b])).bind fun r=>
  if(r !=(0:Int))then
  (some ((⟨(0:Int),(0:Int),(0:Int),[]⟩:ac),r))
  else
  (if(((a1.Kind==(4:Int))||(b.Kind==(4:Int)))||((!((a1.Kind==(0:Int))||(b.Kind==(0:Int))))&&(a1.Kind !=b.Kind)))then
  (some ((⟨(0:Int),(0:Int),(0:Int),[]⟩:ac),(2:Int)))
  else
  (if((a1.Kind==(0:Int))||(b.Kind==(0:Int)))then
  ((pm).bind fun r1=>
  some (r1,(0:Int)))
  else
  ((lG a1 b).bind fun r2=>
  (is1 r2).bind fun r3=>
  (pn r3).bind fun r4=>
  some (r4,(0:Int)))))

def AU(c:Int):Option Bool:=
 some (decide (c<(0:Int)))

def nT(a1:ac)(b:ac):Option (ac×Int):=
 (qS a1 b AU).bind fun r=>
 some (r.1,r.2)

def mW(do1:(ac→Option (ac×Int)))(a1:ac)(x:ac):Option (ac×Int):=
 (do1 a1).bind fun r=>
 some (r.1,r.2)

def Aq(do1:(ac→Option (ac×Int))):Option (ac→ac→Option (ac×Int)):=
 some (mW do1)

def oA(n:Int):Option ac:=
 some (⟨(2:Int),n,(0:Int),[]⟩:ac)

def kw(kind:Int):List ac→Int→Option Int
  |[],e=>
    some e
  |e1::tl,e=>
    (ln e1).bind fun r=>
    if(r !=(0:Int))then
    (some (120:Int))
    else
    (if((e1.Kind !=(0:Int))&&(e1.Kind !=kind))then
    ((kw kind tl) (2:Int))
    else
    ((kw kind tl) e))

def pV(kind:Int)(l:(List ac)):Option Int:=
 kw kind l (0:Int)

def sq(a1:ac)(b:ac)(to1:(Int→Int→Option (Int×Bool))):Option (ac×Int):=
  (pV (2:Int) ([a1,b])).bind fun r=>
  if(r !=(0:Int))then
  (some ((⟨(0:Int),(0:Int),(0:Int),[]⟩:ac),r))
  else
  (if((a1.Kind==(0:Int))||(b.Kind==(0:Int)))then
  ((pm).bind fun r1=>
  some (r1,(0:Int)))
  else
  ((to1 a1.N b.N).bind fun r2=>
  if(!r2.2)then
  (some ((⟨(0:Int),(0:Int),(0:Int),[]⟩:ac),(140:Int)))
  else
  ((oA r2.1).bind fun r3=>
  some (r3,(0:Int)))))

def pW(a1:Int)(b:Int):Option (Int×Bool):=
 some ((IntKind.i64.wrap (a1-b)),decide ((0:Int)≤(ea .and .i64 (ea .xor .i64 a1 b) (ea .xor .i64 a1 (IntKind.i64.wrap (a1-b))))))

def vR(a1:ac)(b:ac):Option (ac×Int):=
 (sq a1 b pW).bind fun r=>
 some (r.1,r.2)

def yY(a1:ac):Option (ac×Int):=
 (oA (0:Int)).bind fun r=>
 (vR r a1).bind fun r1=>
 some (r1.1,r1.2)

def xD(v:ac):Option Int:=
 if(v.Kind==(0:Int))then
 (some (1:Int))
 else
 (some (IntKind.i64.wrap ((2:Int)*v.N)))

def lY(to1:((List Int)→Option Int)):List ac→(List Int)→ac→Option (ac×Int)
  |[],n,x=>
    (to1 n).bind fun r1=>
    (de gv2 r1).bind fun e1=>
    some (e1,(0:Int))
  |e::tl,n,x=>
    if(decide ((1:Int)<e.Kind))then
    (some ((⟨(0:Int),(0:Int),(0:Int),[]⟩:ac),(2:Int)))
    else
    ((xD e).bind fun r2=>
    (app n ([r2])).bind fun n1=>
    (lY to1 tl) n1 x)

def nS(to1:((List Int)→Option Int))(l:(List ac)):Option (ac×Int):=
 (pJ l).bind fun r=>
 if(r !=(0:Int))then
 (some ((⟨(0:Int),(0:Int),(0:Int),[]⟩:ac),r))
 else
 (lY to1 l ([]:List Int) (⟨(0:Int),(0:Int),(0:Int),[]⟩:ac))

def CZ(l:(List Int)):Option Int:=
 (de l (0:Int)).bind fun e=>
 some (IntKind.i64.wrap ((2:Int)-e))

def qT(a1:ac):Option (ac×Int):=
 (nS CZ ([a1])).bind fun r=>
 some (r.1,r.2)

def oj(is1:Bool)(a1:ac)(x:ac):Option (ac×Int):=
 (pn ((a1.Kind==(0:Int))==is1)).bind fun r=>
 some (r,(0:Int))

def Cq(is1:Bool):Option (ac→ac→Option (ac×Int)):=
 some (oj is1)

def sr(a1:Int)(b:Int):Option (Int×Bool):=
 some ((IntKind.i64.wrap (a1+b)),decide ((0:Int)≤(ea .and .i64 (ea .xor .i64 a1 (IntKind.i64.wrap (a1+b))) (ea .xor .i64 b (IntKind.i64.wrap (a1+b))))))

def CD(a1:ac)(b:ac):Option (ac×Int):=
 (sq a1 b sr).bind fun r=>
 some (r.1,r.2)

def nl(p:Int)(y:Int):Option (Int×Int):=
 some ((IntKind.u64.wrap ((IntKind.u64.wrap ((IntKind.u64.wrap (((p).fdiv (2^(min (Int.toNat (32:Int)) IntKind.u64.bits)))*((y).fdiv (2^(min (Int.toNat (32:Int)) IntKind.u64.bits)))))+(((IntKind.u64.wrap ((IntKind.u64.wrap (((p).fdiv (2^(min (Int.toNat (32:Int)) IntKind.u64.bits)))*(ea .and .u64 y (4294967295:Int))))+(((IntKind.u64.wrap ((ea .and .u64 p (4294967295:Int))*(ea .and .u64 y (4294967295:Int))))).fdiv (2^(min (Int.toNat (32:Int)) IntKind.u64.bits)))))).fdiv (2^(min (Int.toNat (32:Int)) IntKind.u64.bits)))))+(((IntKind.u64.wrap ((ea .and .u64 (IntKind.u64.wrap ((IntKind.u64.wrap (((p).fdiv (2^(min (Int.toNat (32:Int)) IntKind.u64.bits)))*(ea .and .u64 y (4294967295:Int))))+(((IntKind.u64.wrap ((ea .and .u64 p (4294967295:Int))*(ea .and .u64 y (4294967295:Int))))).fdiv (2^(min (Int.toNat (32:Int)) IntKind.u64.bits))))) (4294967295:Int))+(IntKind.u64.wrap ((ea .and .u64 p (4294967295:Int))*((y).fdiv (2^(min (Int.toNat (32:Int)) IntKind.u64.bits)))))))).fdiv (2^(min (Int.toNat (32:Int)) IntKind.u64.bits))))),(IntKind.u64.wrap (p*y)))

def pF(n:Int):Option Int:=
 if(decide (n<(0:Int)))then
 (some (IntKind.u64.wrap (0-(IntKind.u64.wrap n))))
 else
 (some (IntKind.u64.wrap n))

def m9(u:Int)(below:Bool):Option (Int×Bool):=
 if below then
 (some ((IntKind.i64.wrap (IntKind.u64.wrap (0-u))),decide (u≤(9223372036854775808:Int))))
 else
 (some ((IntKind.i64.wrap u),decide (u≤(9223372036854775807:Int))))

def mF(a1:Int)(b:Int):Option (Int×Bool):=
 (pF a1).bind fun r=>
 (pF b).bind fun r1=>
 (nl r r1).bind fun r2=>
 (m9 r2.2 ((decide (a1<(0:Int))) !=(decide (b<(0:Int))))).bind fun r3=>
 some (r3.1,(r3.2&&(r2.1==(0:Int))))

def CB(a1:ac)(b:ac):Option (ac×Int):=
 (sq a1 b mF).bind fun r=>
 some (r.1,r.2)

def mG(a1:Int)(b:Int):Option (Int×Bool):=
  if(b==(0:Int))then
  (some ((0:Int),false))
  else
  ((pF a1).bind fun r=>
  (pF b).bind fun r1=>
  (nz r1).bind fun _=>
  (m9 (IntKind.u64.wrap ((r).tdiv r1)) ((decide (a1<(0:Int))) !=(decide (b<(0:Int))))).bind fun r2=>
  some (r2.1,r2.2))

def CC(a1:ac)(b:ac):Option (ac×Int):=
 (sq a1 b mG).bind fun r=>
 some (r.1,r.2)

def zu(c:Int):Option Bool:=
 some (c==(0:Int))

def rO(a1:ac)(b:ac):Option (ac×Int):=
 (qS a1 b zu).bind fun r=>
 some (r.1,r.2)

def ub(do1:(ac→ac→Option (ac×Int)))(a1:ac)(b:ac):Option (ac×Int):=
  (do1 a1 b).bind fun r=>
  if(r.2 !=(0:Int))then
  (some (r.1,r.2))
  else
  ((qT r.1).bind fun r1=>
  some (r1.1,r1.2))

def Bv(do1:(ac→ac→Option (ac×Int))):Option (ac→ac→Option (ac×Int)):=
 some (ub do1)

def C0(l:(List Int)):Option Int:=
 (de l (0:Int)).bind fun e=>
 (de l (1:Int)).bind fun e1=>
 some (min e e1)

def s8(a1:ac)(b:ac):Option (ac×Int):=
 (nS C0 ([a1,b])).bind fun r=>
 some (r.1,r.2)

def Eg(l:(List Int)):Option Int:=
 (de l (0:Int)).bind fun e=>
 (de l (1:Int)).bind fun e1=>
 some (max e e1)

def vo(a1:ac)(b:ac):Option (ac×Int):=
 (nS Eg ([a1,b])).bind fun r=>
 some (r.1,r.2)

def yU:Option (List (Int×(ac→ac→Option (ac×Int)))):=
 (Db nT).bind fun r=>
 (Aq yY).bind fun r1=>
 (Aq qT).bind fun r2=>
 (Cq true).bind fun r3=>
 (Cq false).bind fun r4=>
 (Bv rO).bind fun r5=>
 (Bv r).bind fun r6=>
 (Bv nT).bind fun r7=>
 some (dF (dF (dF (dF (dF (dF (dF (dF (dF (dF (dF (dF (dF (dF (dF (dF ([]:List (Int×(ac→ac→Option (ac×Int)))) (4:Int) r1) (5:Int) r2) (6:Int) r3) (7:Int) r4) (12:Int) CD) (13:Int) vR) (14:Int) CB) (15:Int) CC) (16:Int) rO) (17:Int) r5) (18:Int) nT) (20:Int) r) (19:Int) r6) (21:Int) r7) (22:Int) s8) (23:Int) vo)

def gb(s:(List ac)):Option (List ac):=
 (app ([]:List ac) s).bind fun x=>
 some x

def kZ(stack:(List ac))(k:Int):Option ((List ac)×(List ac)):=
 (dP stack (IntKind.i64.wrap ((stack.length:Int)-k)) (stack.length:Int)).bind fun y=>
 (gb y).bind fun r=>
 (dP stack 0 (IntKind.i64.wrap ((stack.length:Int)-k))).bind fun y1=>
 some (r,y1)

def gJ(bad:Int)(stack:List ac):Option (ac×Int):=
  if(bad !=(0:Int))then
  (some ((⟨(0:Int),(0:Int),(0:Int),[]⟩:ac),bad))
  else
  ((de stack (0:Int)).bind fun e1=>
  some (e1,(0:Int)))

def dT(do1:(bC→(List ac)→Option (ac×Int))):List bC→Int→(List ac)→Option (ac×Int)
  |[],bad1,stack1=>
    gJ bad1 stack1
  |e2::tl,bad1,stack1=>
    (pE e2.Tag).bind fun r=>
    (kZ stack1 r).bind fun r1=>
    (do1 e2 r1.1).bind fun r2=>
    if(r2.2 !=(0:Int))then
    (gJ r2.2 r1.2)
    else
    ((app r1.2 ([r2.1])).bind fun l2=>
    (dT do1 tl) bad1 l2)

def iU(e:bS)(do1:(bC→(List ac)→Option (ac×Int))):Option (ac×Int):=
 dT do1 e.Nodes (0:Int) ([]:List ac)

def qy(r1:ac×Int)(no:Int):Option (ac×Int):=
 some (r1.1,no)

def i9(r:(List ac))(do1:(List (Int×(ac→ac→Option (ac×Int)))))(n:bC)(l:(List ac)):Option (ac×Int):=
  if(n.Tag==(1:Int))then
  (some (n.Value,(0:Int)))
  else
  (if(n.Tag==(2:Int))then
  ((de r n.Col).bind fun e=>
  some (e,(0:Int)))
  else
  ((de l (0:Int)).bind fun e1=>
  (de l (IntKind.i64.wrap ((l.length:Int)-(1:Int)))).bind fun e2=>
  (((pw do1 n.Tag).getD (fun _ _=>none)) e1 e2).bind fun r1=>
  if((r1.2 !=(0:Int))&&(r1.2 !=(140:Int)))then
  (qy r1 (201:Int))
  else
  (qy r1 r1.2)))

def oG(e:bS)(r:(List ac)):List Int→ac→Option (ac×Int)
  |[],x=>
    (yU).bind fun r3=>
    (iU e (i9 r r3)).bind fun r4=>
    some (r4.1,r4.2)
  |e1::tl,x=>
    (if(!(decide ((r.length:Int)≤e1)))then((de r e1).bind fun e2=>
    (mC e2).bind fun r5=>
    some (!r5))else some true).bind fun t=>
    if t then
    (some ((⟨(0:Int),(0:Int),(0:Int),[]⟩:ac),(2:Int)))
    else
    ((oG e r tl) x)

def tk(e:bS)(r:(List ac)):Option (ac×Int):=
  (ol e).bind fun r1=>
  if(r1 !=(0:Int))then
  (some ((⟨(0:Int),(0:Int),(0:Int),[]⟩:ac),r1))
  else
  ((tm e).bind fun r2=>
  oG e r r2 (⟨(0:Int),(0:Int),(0:Int),[]⟩:ac))

def wg(a1:ac):Option Bool:=
 (pn true).bind fun r=>
 some (decide (a1=r))

def qA(e:bS)(r:(List ac)):Option (Bool×Int):=
 (tk e r).bind fun r1=>
 (wg r1.1).bind fun r2=>
 some (r2,r1.2)

def ic(n:ay)(x:Int×(List ac))(xs:List (List ac))(xs1:List Bool)(x1:Int)(x2:(List (List ac))):Option (Option Nat×(List (List ac)×List Bool×Int×(List (List ac)))):=
  (qA n.Cond x.2).bind fun r3=>
  if(r3.2 !=(0:Int))then
  (some (some 0,(xs,xs1,r3.2,[])))
  else
  (if r3.1 then
  ((de xs1 x.1).bind fun e2=>
  (some (xs1.set x.1.toNat true)).bind fun st=>
  (app xs ([x.2])).bind fun l2=>
  some (none,(l2,st,x1,x2)))
  else
  (some (none,(xs,xs1,x1,x2))))

def hZ(r:dh)(n:ay)(r1:(Option Nat×(List (List ac)×List Bool×Int×(List (List ac))))×Unit):List (List ac)→Nat→(List (List ac))→Option ((List (List ac))×Int)
  |[],i2,out=>
    some (out,(0:Int))
  |e3::tl,i2,out=>
    (if n.Left then((de r1.1.2.2.1 (i2:Int)).bind fun e4=>
    some (!e4))else some false).bind fun t=>
    if t then
    ((de r.width n.B).bind fun e5=>
    (nR e5 (⟨(0:Int),(0:Int),(0:Int),[]⟩:ac)).bind fun mk1=>
    (dM ([e3,mk1])).bind fun r4=>
    (app out ([r4])).bind fun l7=>
    (hZ r n r1 tl) (i2+1) l7)
    else
    ((hZ r n r1 tl) (i2+1) out)

def j3(r:dh)(n:ay):Option ((List (List ac))×Int):=
  (de r.rows n.A).bind fun e=>
  (de r.rows n.B).bind fun e1=>
  if(decide ((40000:Int)<(IntKind.i64.wrap ((e.length:Int)*(e1.length:Int)))))then
  (some ([],(3:Int)))
  else
  ((nR (e.length:Int) false).bind fun mk=>
  (wK e e1).bind fun it=>
  ((itU it) (Option Nat×(List (List ac)×List Bool×Int×(List (List ac)))) (xb (fun x s=>ic n x s.1 s.2.1 s.2.2.1 s.2.2.2)) (none,(([]:List (List ac)),mk,(0:Int),[]))).bind fun r1=>
  if r1.1.1.isNone then
  (hZ r n r1 e 0 r1.1.2.1)
  else
  (some (r1.1.2.2.2.2,r1.1.2.2.2.1)))

def gr(n:ay):List (List ac)→(List (List ac))→Option ((List (List ac))×Int)
  |[],out=>
    some (out,(0:Int))
  |e1::tl,out=>
    (qA n.Cond e1).bind fun r1=>
    if(r1.2 !=(0:Int))then
    (some ([],r1.2))
    else
    (if r1.1 then
    ((app out ([e1])).bind fun out1=>
    (gr n tl) out1)
    else
    ((gr n tl) out))

def jR(r:dh)(n:ay):Option ((List (List ac))×Int):=
 (de r.rows n.A).bind fun e=>
 gr n e ([]:List (List ac))

def jJ(a1:gv):List (List ac)→(List ac)→Int→Option ((List ac)×Int)
  |[],out,fault=>
    some (out,fault)
  |e::tl,out,fault=>
    (tk a1.Arg e).bind fun r=>
    if(r.2==(140:Int))then
    ((jJ a1 tl) out r.2)
    else
    (if(r.2 !=(0:Int))then
    (some ([],(2:Int)))
    else
    (if(r.1.Kind !=(0:Int))then
    ((app out ([r.1])).bind fun out1=>
    (jJ a1 tl) out1 fault)
    else
    ((jJ a1 tl) out fault)))

def yi(a1:gv)(rows:(List (List ac))):Option ((List ac)×Int):=
 jJ a1 rows ([]:List ac) (0:Int)

def m4(v:ac):Option Bool:=
 some (v.Kind !=(2:Int))

def dj(f:(ac→Option Bool)):List ac→Nat→Option Int
 |[],i=>
  some (-1:Int)
 |e::tl,i=>
  (f e).bind fun r=>
  if r then
  (some (i:Int))
  else
  ((dj f tl) (i+1))

def gN(s:(List ac))(f:(ac→Option Bool)):Option Int:=
 dj f s 0

def eC(s:(List ac))(f:(ac→Option Bool)):Option Bool:=
 (gN s f).bind fun r=>
 some (decide ((0:Int)≤r))

def rq(v:ac):Option ac:=
 some (⟨(4:Int),((v.N).fdiv (2^(min (Int.toNat (63:Int)) IntKind.i64.bits))),(IntKind.u64.wrap v.N),[]⟩:ac)

def wP(s:ac)(t:ac):Option (ac×Int):=
 (LA s.U t.U (0:Int)).bind fun r=>
 (LA (IntKind.u64.wrap s.N) (IntKind.u64.wrap t.N) r.2).bind fun r1=>
 if(decide ((ea .and .i64 (ea .xor .i64 s.N (IntKind.i64.wrap r1.1)) (ea .xor .i64 t.N (IntKind.i64.wrap r1.1)))<(0:Int)))then
 (some ((⟨(0:Int),(0:Int),(0:Int),[]⟩:ac),(140:Int)))
 else
 (some ((⟨(4:Int),(IntKind.i64.wrap r1.1),r.1,[]⟩:ac),(0:Int)))

def tp(s:ac)(v:ac):Option (ac×Int):=
  (pV (4:Int) ([s])).bind fun r=>
  (pV (2:Int) ([v])).bind fun r1=>
  if((r==(120:Int))||(r1==(120:Int)))then
  (some ((⟨(0:Int),(0:Int),(0:Int),[]⟩:ac),(120:Int)))
  else
  (if((r !=(0:Int))||(r1 !=(0:Int)))then
  (some ((⟨(0:Int),(0:Int),(0:Int),[]⟩:ac),(2:Int)))
  else
  (if(v.Kind==(0:Int))then
  (some (s,(0:Int)))
  else
  (if(s.Kind==(0:Int))then
  ((rq v).bind fun r2=>
  some (r2,(0:Int)))
  else
  ((rq v).bind fun r3=>
  (wP s r3).bind fun r4=>
  some (r4.1,r4.2)))))

def yZ(s:ac):Option (ac×Int):=
  (pV (4:Int) ([s])).bind fun r=>
  if(r !=(0:Int))then
  (some ((⟨(0:Int),(0:Int),(0:Int),[]⟩:ac),r))
  else
  (if(s.Kind==(0:Int))then
  (some (s,(0:Int)))
  else
  ((oA (IntKind.i64.wrap s.U)).bind fun r1=>
  (rq r1).bind fun r2=>
  if(decide (r2=s))then
  (some (r1,(0:Int)))
  else
  (some ((⟨(0:Int),(0:Int),(0:Int),[]⟩:ac),(140:Int)))))

def na:List ac→ac→ac→Option (ac×Int)
 |[],x,s=>
  (yZ s).bind fun r1=>
  some (r1.1,r1.2)
 |e::tl,x,s=>
  (tp s e).bind fun r2=>
  if(r2.2 !=(0:Int))then
  (some (r2.1,r2.2))
  else
  ((na tl) x r2.1)

def y4(l:(List ac)):Option (ac×Int):=
  if(decide ((1048576:Int)<(l.length:Int)))then
  (some ((⟨(0:Int),(0:Int),(0:Int),[]⟩:ac),(3:Int)))
  else
  ((pm).bind fun r=>
  na l (⟨(0:Int),(0:Int),(0:Int),[]⟩:ac) r)

def cQ(cmp:(ac→ac→Option Int)):List ac→ac→Option ac
 |[],m=>
  some m
 |e1::tl,m=>
  (cmp e1 m).bind fun r=>
  if(decide (r<(0:Int)))then
  ((cQ cmp tl) e1)
  else
  ((cQ cmp tl) m)

def gB(p:(List ac))(cmp:(ac→ac→Option Int)):Option ac:=
 (de p (0:Int)).bind fun e=>
 cQ cmp (p.drop (1)) e

def fi(p:(List ac))(cmp:(ac→ac→Option Int)):Option ac:=
 if(decide ((p.length:Int)<(1:Int)))then
 (none)
 else
 (gB p cmp)

def rU(v:ac):Option Bool:=
 (ln v).bind fun r=>
 some (r !=(0:Int))

def cS(f:(ac→Option Bool)):List ac→Nat→Option Int
 |[],i=>
  some (-1:Int)
 |e::tl,i=>
  (f e).bind fun r=>
  if r then
  (some (i:Int))
  else
  ((cS f tl) (i+1))

def kR(s:(List ac))(f:(ac→Option Bool)):Option Int:=
 cS f s 0

def gD(s:(List ac))(f:(ac→Option Bool)):Option Bool:=
 (kR s f).bind fun r=>
 some (decide ((0:Int)≤r))

def qW(r:(List ac)):Option Bool:=
  (if(decide ((r.length:Int)≤(16:Int)))then((gD r rU).bind fun r1=>
  some (!r1))else some false).bind fun t=>
  some t

def bR(s1:(List ac))(s2:(List ac))(cmp:(ac→ac→Option Int)):List ac→Nat→Option Int
  |[],i=>
    if(decide ((s1.length:Int)<(s2.length:Int)))then
    (some (-1:Int))
    else
    (some (0:Int))
  |e::tl,i=>
    if(decide ((s2.length:Int)≤(i:Int)))then
    (some (1:Int))
    else
    ((de s2 (i:Int)).bind fun e1=>
    (cmp e e1).bind fun r=>
    if(r !=(0:Int))then
    (some r)
    else
    ((bR s1 s2 cmp tl) (i+1)))

def cI(s1:(List ac))(s2:(List ac))(cmp:(ac→ac→Option Int)):Option Int:=
 bR s1 s2 cmp s1 0

def oJ(p:Int):Option Bool:=
 some (p !=p)

def m7(p:Int)(y:Int):Option Int:=
  (oJ p).bind fun r=>
  (oJ y).bind fun r1=>
  if r then
  (if r1 then
  (some (0:Int))
  else
  (some (-1:Int)))
  else
  (if r1 then
  (some (1:Int))
  else
  (if(decide (p<y))then
  (some (-1:Int))
  else
  (if(decide (y<p))then
  (some (1:Int))
  else
  (some (0:Int)))))

def oK(p:xc):Option Bool:=
 some (!(p==p))

def m8(p:xc)(y:xc):Option Int:=
  (oK p).bind fun r=>
  (oK y).bind fun r1=>
  if r then
  (if r1 then
  (some (0:Int))
  else
  (some (-1:Int)))
  else
  (if r1 then
  (some (1:Int))
  else
  (if(Op.bytesLess p y)then
  (some (-1:Int))
  else
  (if(!(Op.bytesLess p y||p==y))then
  (some (1:Int))
  else
  (some (0:Int)))))

def pq(a1:ac)(b:ac):Option Int:=
 (ja a1.Kind b.Kind).bind fun r=>
 (gU a1.N b.N).bind fun r1=>
 (m7 a1.U b.U).bind fun r2=>
 (m8 a1.S b.S).bind fun r3=>
 (m6 ([r,r1,r2,r3])).bind fun r4=>
 some r4

def pL(a1:(List ac))(b:(List ac)):Option Int:=
 (cI a1 b pq).bind fun r=>
 some r

def pN(a1:(List ac))(b:(List ac)):Option Int:=
  (qW a1).bind fun r=>
  (if(!(!r))then((qW b).bind fun r1=>
  some (!r1))else some true).bind fun t=>
  if t then
  (some (0:Int))
  else
  ((pL a1 b).bind fun r2=>
  some r2)

def iC(a1:ac)(b:ac):Option Int:=
 (pN ([a1]) ([b])).bind fun r=>
 some r

def cR(cmp:(ac→ac→Option Int)):List ac→ac→Option ac
 |[],m=>
  some m
 |e1::tl,m=>
  (cmp e1 m).bind fun r=>
  if(decide ((0:Int)<r))then
  ((cR cmp tl) e1)
  else
  ((cR cmp tl) m)

def gC(p:(List ac))(cmp:(ac→ac→Option Int)):Option ac:=
 (de p (0:Int)).bind fun e=>
 cR cmp (p.drop (1)) e

def fj(p:(List ac))(cmp:(ac→ac→Option Int)):Option ac:=
 if(decide ((p.length:Int)<(1:Int)))then
 (none)
 else
 (gC p cmp)

def kN(a1:gv)(rows:(List (List ac))):Option (ac×Int):=
  if(a1.Tag==(1:Int))then
  ((oA (rows.length:Int)).bind fun r=>
  some (r,(0:Int)))
  else
  ((yi a1 rows).bind fun r1=>
  if(r1.2==(2:Int))then
  (some ((⟨(0:Int),(0:Int),(0:Int),[]⟩:ac),r1.2))
  else
  ((if(a1.Tag==(3:Int))then((eC r1.1 m4).bind fun r2=>
  some r2)else some false).bind fun t=>
  if t then
  (some ((⟨(0:Int),(0:Int),(0:Int),[]⟩:ac),(2:Int)))
  else
  (if(r1.2 !=(0:Int))then
  (some ((⟨(0:Int),(0:Int),(0:Int),[]⟩:ac),r1.2))
  else
  (if(a1.Tag==(2:Int))then
  ((oA (r1.1.length:Int)).bind fun r3=>
  some (r3,(0:Int)))
  else
  (if(a1.Tag==(3:Int))then
  ((y4 r1.1).bind fun r4=>
  some (r4.1,r4.2))
  else
  (if((r1.1.length:Int)==(0:Int))then
  (some ((⟨(0:Int),(0:Int),(0:Int),[]⟩:ac),(0:Int)))
  else
  (if(a1.Tag==(4:Int))then
  ((fi r1.1 iC).bind fun r5=>
  some (r5,(0:Int)))
  else
  ((fj r1.1 iC).bind fun r6=>
  some (r6,(0:Int))))))))))

def qi(nx:Int→Option Int)(e:(List (List ac)))(n:Int):List (List ac)→Option Int
 |[]=>
  nx (max n (e.length:Int))
 |e1::tl1=>
  (qW e1).bind fun r=>
  if(!r)then
  (some (150:Int))
  else
  ((qi nx e n tl1))

def lu:List (List (List ac))→Int→Option Int
 |[],n=>
  if(decide ((8000:Int)<n))then
  (some (3:Int))
  else
  (some (0:Int))
 |e::tl,n=>
  qi (lu tl) e n e

def vw(l:(List (List (List ac)))):Option Int:=
 lu l (0:Int)

def uA(c:Int):Option Bool:=
 some (decide (c<(0:Int)))

def yE(r:(List ac))(c:Int):Option Bool:=
 some ((decide (c<(0:Int)))||(decide ((r.length:Int)≤c)))

def DF(r:(List ac))(columns:(List Int)):Option Bool:=
  (if(decide ((columns.length:Int)≤(16:Int)))then((cO columns (yE r)).bind fun r1=>
  some (!r1))else some false).bind fun t=>
  some t

def qj(columns:(List Int)):List (List ac)→Option Int
 |[]=>
  some (0:Int)
 |e::tl=>
  (DF e columns).bind fun r2=>
  if(!r2)then
  (some (2:Int))
  else
  ((qj columns tl))

def yF(l:(List (List ac)))(columns:(List Int)):Option Int:=
  (vw ([l])).bind fun r=>
  if(r !=(0:Int))then
  (some r)
  else
  ((if(!(decide ((16:Int)<(columns.length:Int))))then((cO columns uA).bind fun r1=>
  some r1)else some true).bind fun t=>
  if t then
  (some (2:Int))
  else
  (qj columns l))

def cN(s:(List ac)):Option (List ac):=
 (app ([]:List ac) s).bind fun x=>
 some x

def nC:List (List ac)→(List (List ac))→Option (List (List ac))
 |[],out=>
  some out
 |e::tl,out=>
  (cN e).bind fun r=>
  (app out ([r])).bind fun out1=>
  (nC tl) out1

def tH(l:(List (List ac))):Option (List (List ac)):=
 nC l ([]:List (List ac))

def mD(r:(List ac)):List Int→(List ac)→Option (List ac)
 |[],out=>
  some out
 |e::tl,out=>
  (de r e).bind fun e1=>
  (app out ([e1])).bind fun out1=>
  (mD r tl) out1

def nW(r:(List ac))(columns:(List Int)):Option (List ac):=
 mD r columns ([]:List ac)

def mN(columns:(List Int))(a1:(List ac))(b:(List ac)):Option Int:=
 (nW a1 columns).bind fun r=>
 (nW b columns).bind fun r1=>
 (pL r r1).bind fun r2=>
 (pL a1 b).bind fun r3=>
 (m6 ([r2,r3])).bind fun r4=>
 some r4

def ep(s2:(List ac)):List ac→Nat→Option Bool
 |[],i=>
  some true
 |e::tl,i=>
  (de s2 (i:Int)).bind fun e1=>
  if(!decide (e=e1))then
  (some false)
  else
  ((ep s2 tl) (i+1))

def jm(s1:(List ac))(s2:(List ac)):Option Bool:=
 if((s1.length:Int) !=(s2.length:Int))then
 (some false)
 else
 (ep s2 s1 0)

def pM(a1:(List ac))(b:(List ac)):Option Bool:=
 (jm a1 b).bind fun r=>
 some r

def gE(columns:(List Int))(a1:(List ac))(b:(List ac)):Option Bool:=
 (nW a1 columns).bind fun r=>
 (nW b columns).bind fun r1=>
 (pM r r1).bind fun r2=>
 some r2

def ny{Sg:Type}(alike:((List ac)→(List ac)→Option Bool))(yld:(List (List ac))→Sg→Option (Bool×Sg))(nx:Sg→(List (List ac))→Option Sg)(s1:Sg)(x:(List (List ac))):Nat→Int→Option Sg
  |0,_=>none
  |n2+1,n1=>
    (if(decide (n1<(x.length:Int)))then((de x (0:Int)).bind fun e2=>
    (de x n1).bind fun e3=>
    (alike e2 e3).bind fun r=>
    some r)else some false).bind fun t=>
    if t then
    ((ny alike yld nx s1 x n2) (IntKind.i64.wrap (n1+(1:Int))))
    else
    ((dP x 0 n1).bind fun y=>
    (yld (y) s1).bind fun r1=>
    if(!r1.1)then
    (some r1.2)
    else
    ((dP x n1 (x.length:Int)).bind fun y1=>
    nx r1.2 y1))

def kC{Sg:Type}(alike:((List ac)→(List ac)→Option Bool))(yld:(List (List ac))→Sg→Option (Bool×Sg)):Nat→Sg→(List (List ac))→Option Sg
 |0,_,_=>none
 |n+1,s1,x=>
  if(decide ((0:Int)<(x.length:Int)))then
  (ny alike yld (kC alike yld n) s1 x ir (1:Int))
  else
  (some s1)

def wo{Sg:Type}(l:(List (List ac)))(alike:((List ac)→(List ac)→Option Bool))(yld:(List (List ac))→Sg→Option (Bool×Sg))(s:Sg):Option Sg:=
 kC alike yld ir s l

def EG(l:(List (List ac)))(alike:((List ac)→(List ac)→Option Bool)):Option (It (List (List ac))):=
 some (fun _=>wo l alike)

def fD(s:(List (List ac))):Option (List (List ac)):=
 (app ([]:List (List ac)) s).bind fun x=>
 some x

def kD(columns:(List Int))(x:(List (List ac)))(xs:List iB):Option (List iB):=
 (de x (0:Int)).bind fun e=>
 (nW e columns).bind fun r2=>
 (fD x).bind fun r3=>
 (app xs ([(⟨r2,r3⟩:iB)])).bind fun l3=>
 some l3

def tI(l:(List (List ac)))(columns:(List Int)):Option ((List iB)×Int):=
  (yF l columns).bind fun r=>
  if(r !=(0:Int))then
  (some ([],r))
  else
  ((tH l).bind fun r1=>
  (zA (fun(x:(List ac)×(List ac))=>(mN columns) x.1 x.2) r1).bind fun u0=>
  (EG u0 (gE columns)).bind fun it=>
  (it (List iB) (Di (fun x s=>kD columns x s)) ([]:List iB)).bind fun xs1=>
  some (xs1,(0:Int)))

def iW(nx:(List (List ac))→Option ((List (List ac))×Int))(e1:iB)(out:List (List ac)):List gv→(List ac)→Option ((List (List ac))×Int)
  |[],x=>
    (app out ([x])).bind fun out1=>
    nx out1
  |e2::tl1,x=>
    (kN e2 e1.Rows).bind fun r3=>
    if(r3.2 !=(0:Int))then
    (some ([],r3.2))
    else
    ((app x ([r3.1])).bind fun x1=>
    (iW nx e1 out tl1) x1)

def fT(n:ay):List iB→(List (List ac))→Option ((List (List ac))×Int)
 |[],out=>
  some (out,(0:Int))
 |e1::tl,out=>
  (cN e1.Key).bind fun r2=>
  iW (fT n tl) e1 out n.Aggs r2

def lV(n:ay)(groups:(List iB)):Option ((List (List ac))×Int):=
 fT n groups ([]:List (List ac))

def js(r:dh)(n:ay):Option ((List (List ac))×Int):=
  (de r.rows n.A).bind fun e=>
  (tI e n.Keys).bind fun r1=>
  if(r1.2 !=(0:Int))then
  (some ([],r1.2))
  else
  (if(((n.Keys.length:Int)==(0:Int))&&((r1.1.length:Int)==(0:Int)))then
  (lV n ([(⟨[],[]⟩:iB)]))
  else
  (lV n r1.1))

def gX(nx:(List (List ac))→Option ((List (List ac))×Int))(e1:(List ac))(out:List (List ac)):List bS→(List ac)→Option ((List (List ac))×Int)
  |[],y=>
    (app out ([y])).bind fun out1=>
    nx out1
  |e2::tl1,y=>
    (tk e2 e1).bind fun r1=>
    if(r1.2 !=(0:Int))then
    (some ([],r1.2))
    else
    ((app y ([r1.1])).bind fun y1=>
    (gX nx e1 out tl1) y1)

def fX(n:ay):List (List ac)→(List (List ac))→Option ((List (List ac))×Int)
 |[],out=>
  some (out,(0:Int))
 |e1::tl,out=>
  gX (fX n tl) e1 out n.Items ([]:List ac)

def jr(r:dh)(n:ay):Option ((List (List ac))×Int):=
 (de r.rows n.A).bind fun e=>
 fX n e ([]:List (List ac))

def tG(l:(List (List ac))):Option (List (List ac)):=
 (tH l).bind fun r=>
 (zA (fun(x:(List ac)×(List ac))=>pL x.1 x.2) r).bind fun u0=>
 some u0

def cw(eq:((List ac)→(List ac)→Option Bool))(i:Nat)(y:List (List ac)):Nat→Nat→(List (List ac))→Int→Option (List (List ac))
  |0,i1,s1,k=>
    (dP s1 k (s1.length:Int)).bind fun y1=>
    (some (s1.take k.toNat++List.replicate y1.length ([]))).bind fun cl=>
    (dP cl 0 k).bind fun y2=>
    some y2
  |k2+1,i1,s1,k=>
    (ya s1 (i:Int) y.length (i1:Int)).bind fun e3=>
    (ya s1 (i:Int) y.length (IntKind.i64.wrap ((i1:Int)-(1:Int)))).bind fun e4=>
    (eq e3 e4).bind fun r1=>
    if(!r1)then
    ((ya s1 (i:Int) y.length (i1:Int)).bind fun e5=>
    (de s1 k).bind fun e6=>
    (some (s1.set k.toNat e5)).bind fun st=>
    (cw eq i y k2) (i1+1) st (IntKind.i64.wrap (k+(1:Int))))
    else
    ((cw eq i y k2) (i1+1) s1 k)

def cT(s:(List (List ac)))(eq:((List ac)→(List ac)→Option Bool)):List (List ac)→Nat→Option (List (List ac))
  |[],i=>
    some s
  |e::tl,i=>
    (de s (IntKind.i64.wrap ((i:Int)-(1:Int)))).bind fun e1=>
    (eq e e1).bind fun r=>
    if r then
    ((dP s (i:Int) (s.length:Int)).bind fun y=>
    cw eq i y (y.length-1) 1 s (i:Int))
    else
    ((cT s eq tl) (i+1))

def fq(s:(List (List ac)))(eq:((List ac)→(List ac)→Option Bool)):Option (List (List ac)):=
 if(decide ((s.length:Int)<(2:Int)))then
 (some s)
 else
 (cT s eq (s.drop (1)) 1)

def sU(l:(List (List ac))):Option ((List (List ac))×Int):=
  (vw ([l])).bind fun r=>
  if(r !=(0:Int))then
  (some ([],r))
  else
  ((tG l).bind fun r1=>
  (fq r1 pM).bind fun r2=>
  some (r2,(0:Int)))

def iX(r:dh)(n:ay):Option ((List (List ac))×Int):=
 (de r.rows n.A).bind fun e=>
 (sU e).bind fun r1=>
 some (r1.1,r1.2)

def jk(s:List (List ac)):Option (List (List ac)):=
 some s

def jl(n:Int):Option (List (List ac)):=
  if(decide ((0:Int)<(IntKind.i64.wrap (n-(IntKind.i64.wrap ((0:Int)-(0:Int)))))))then
  ((WZ (IntKind.i64.wrap (n-(IntKind.i64.wrap ((0:Int)-(0:Int)))))).bind fun _=>
  (nR (IntKind.i64.wrap (n-(IntKind.i64.wrap ((0:Int)-(0:Int))))) ([])).bind fun mk=>
  (dP mk 0 (0:Int)).bind fun y=>
  jk y)
  else
  (jk ([]:List (List ac)))

def iu(n:Int):Option (List (List ac)):=
 if(decide (n<(0:Int)))then
 (none)
 else
 (jl n)

def f9:List (List (List ac))→(List (List ac))→Option (List (List ac))
 |[],newslice=>
  some newslice
 |e1::tl1,newslice=>
  (app newslice e1).bind fun newslice1=>
  (f9 tl1) newslice1

def ga(slices:(List (List (List ac)))):List (List (List ac))→Int→Option (List (List ac))
 |[],size=>
  (iu size).bind fun r=>
  f9 slices r
 |e::tl,size=>
  if(decide ((IntKind.i64.wrap (size+(e.length:Int)))<(0:Int)))then
  (none)
  else
  ((ga slices tl) (IntKind.i64.wrap (size+(e.length:Int))))

def ff(slices:(List (List (List ac)))):Option (List (List ac)):=
 ga slices slices (0:Int)

def kL(r:dh)(n:ay):Option ((List (List ac))×Int):=
 (de r.rows n.A).bind fun e=>
 (de r.rows n.B).bind fun e1=>
 (ff ([e,e1])).bind fun r1=>
 some (r1,(0:Int))

def oo(nx:Option Int)(n:Int):Option Int:=
 if(n !=(0:Int))then
 (some n)
 else
 (nx)

def jI(a1:(List ac))(b:(List ac)):List ig→Option Int
 |[]=>
  (pN a1 b).bind fun r=>
  some r
 |e::tl=>
  (de a1 e.Col).bind fun e1=>
  (de b e.Col).bind fun e2=>
  (iC e1 e2).bind fun r1=>
  if e.Desc then
  (oo (jI a1 b tl) (IntKind.i64.wrap (0-r1)))
  else
  (oo (jI a1 b tl) r1)

def oq(order:(List ig))(a1:(List ac))(b:(List ac)):Option Int:=
 jI a1 b order

def Cv(order:(List ig)):Option ((List ac)→(List ac)→Option Int):=
 some (oq order)

def oI(out1:List (List ac)):Option (List (List ac)):=
 some out1

def kK(order:(List ig))(limit:Int):List (List ac)→(List (List ac))→Option (List (List ac))
  |[],out=>
    (Cv order).bind fun r=>
    (zA (fun(x:(List ac)×(List ac))=>r x.1 x.2) out).bind fun u0=>
    if((decide ((0:Int)≤limit))&&(decide (limit<(u0.length:Int))))then
    ((dP u0 0 limit).bind fun y=>
    oI y)
    else
    (oI u0)
  |e::tl,out=>
    (cN e).bind fun r1=>
    (app out ([r1])).bind fun out2=>
    (kK order limit tl) out2

def o6(rows:(List (List ac)))(order:(List ig))(limit:Int):Option (List (List ac)):=
 kK order limit rows ([]:List (List ac))

def kM(r:dh)(n:ay):Option ((List (List ac))×Int):=
 (de r.rows n.A).bind fun e=>
 (o6 e n.Order n.Limit).bind fun r1=>
 some (r1,(0:Int))

def wt(l:(List (List ac))):Option ((List (List ac))×Int):=
  (vw ([l])).bind fun r=>
  if(r !=(0:Int))then
  (some ([],r))
  else
  ((tG l).bind fun r1=>
  some (r1,(0:Int)))

def eG(s:(List ig)):Option (List ig):=
 (app ([]:List ig) s).bind fun x=>
 some x

def cF(s:(List bC)):Option (List bC):=
 (app ([]:List bC) s).bind fun x=>
 some x

def fE(s:(List gv)):Option (List gv):=
 (app ([]:List gv) s).bind fun x=>
 some x

def eV(s:(List bS)):Option (List bS):=
 (app ([]:List bS) s).bind fun x=>
 some x

def nm:List bS→Nat→ay→Option ay
 |[],i1,n4=>
  some n4
 |e1::tl1,i1,n4=>
  (de n4.Items (i1:Int)).bind fun e2=>
  (cF e2.Nodes).bind fun r6=>
  (some (n4.Items.set (i1:Int).toNat ({e2 with Nodes:=r6}:bS))).bind fun st=>
  (nm tl1) (i1+1) ({n4 with Items:=st}:ay)

def np:List gv→Nat→ay→Option ay
 |[],i,n3=>
  nm n3.Items 0 n3
 |e::tl,i,n3=>
  (de n3.Aggs (i:Int)).bind fun e3=>
  (cF e3.Arg.Nodes).bind fun r7=>
  (some (n3.Aggs.set (i:Int).toNat ({e3 with Arg:=({e3.Arg with Nodes:=r7}:bS)}:gv))).bind fun st1=>
  (np tl) (i+1) ({n3 with Aggs:=st1}:ay)

def nq(n2:ay):Option ay:=
 (cM n2.Kinds).bind fun r=>
 (cM n2.Keys).bind fun r1=>
 (eG n2.Order).bind fun r2=>
 (cF (((ay.mk n2.Op n2.A n2.B n2.Table r n2.Left n2.Cond r1 n2.Aggs n2.Items r2 n2.Limit).Cond).Nodes)).bind fun r3=>
 (fE (({(ay.mk n2.Op n2.A n2.B n2.Table r n2.Left n2.Cond r1 n2.Aggs n2.Items r2 n2.Limit)with Cond:=({(ay.mk n2.Op n2.A n2.B n2.Table r n2.Left n2.Cond r1 n2.Aggs n2.Items r2 n2.Limit).Cond with Nodes:=r3}:bS)}:ay).Aggs)).bind fun r4=>
 (eV (({(ay.mk n2.Op n2.A n2.B n2.Table r n2.Left n2.Cond r1 n2.Aggs n2.Items r2 n2.Limit)with Cond:=({(ay.mk n2.Op n2.A n2.B n2.Table r n2.Left n2.Cond r1 n2.Aggs n2.Items r2 n2.Limit).Cond with Nodes:=r3}:bS)}:ay).Items)).bind fun r5=>
 np r4 0 ({({({(ay.mk n2.Op n2.A n2.B n2.Table r n2.Left n2.Cond r1 n2.Aggs n2.Items r2 n2.Limit)with Cond:=({(ay.mk n2.Op n2.A n2.B n2.Table r n2.Left n2.Cond r1 n2.Aggs n2.Items r2 n2.Limit).Cond with Nodes:=r3}:bS)}:ay)with Aggs:=r4}:ay)with Items:=r5}:ay)

def pe(by1:Int)(n1:ay):Option ay:=
 if(decide ((0:Int)≤n1.B))then
 (nq (ay.mk n1.Op n1.A (IntKind.i64.wrap (n1.B+by1)) n1.Table n1.Kinds n1.Left n1.Cond n1.Keys n1.Aggs n1.Items n1.Order n1.Limit))
 else
 (nq n1)

def sZ(n:ay)(by1:Int):Option ay:=
 if(decide ((0:Int)≤n.A))then
 (pe by1 (ay.mk n.Op (IntKind.i64.wrap (n.A+by1)) n.B n.Table n.Kinds n.Left n.Cond n.Keys n.Aggs n.Items n.Order n.Limit))
 else
 (pe by1 n)

def nG(l:cm)(place:Int)(e:Int):Nat→Int→cm→Option (cm×Int)
  |0,_,_=>none
  |n+1,i,out=>
    if(decide (i≤place))then
    ((de l.Nodes i).bind fun e1=>
    (sZ e1 (IntKind.i64.wrap (0-e))).bind fun r1=>
    (app out.Nodes ([r1])).bind fun l2=>
    (nG l place e n) (IntKind.i64.wrap (i+(1:Int))) ({out with Nodes:=l2}:cm))
    else
    (some (out,(0:Int)))

def tU(l:cm)(place:Int):Option (cm×Int):=
  (px l).bind fun r=>
  if(!r.2.2)then
  (some ((⟨[]⟩:cm),(230:Int)))
  else
  (if((decide (place<(0:Int)))||(decide ((l.Nodes.length:Int)≤place)))then
  (some ((⟨[]⟩:cm),(2:Int)))
  else
  ((de r.1.first place).bind fun e=>
  nG l place e ir e ({(⟨[]⟩:cm)with Nodes:=([]:List ay)}:cm)))

def ot(l:cm)(nx:Nat→dh→Option ((List (List ac))×Int))(i:Nat)(r2:((List (List ac))×Int)×dh)(rows:(List (List ac))):Option ((List (List ac))×Int):=
 (tU l (i:Int)).bind fun r3=>
 (se r3.1).bind fun r4=>
 (app r2.2.rows ([rows])).bind fun l3=>
 (app r2.2.width ([(r4.1.length:Int)])).bind fun l4=>
 nx (i+1) ({({r2.2 with rows:=l3}:dh)with width:=l4}:dh)

def ou(l:cm)(nx:Nat→dh→Option ((List (List ac))×Int))(i:Nat)(e:ay)(r2:((List (List ac))×Int)×dh)(e2:Int):Option ((List (List ac))×Int):=
  if(e2 !=(0:Int))then
  (some ([],e2))
  else
  (if(e.Op !=(8:Int))then
  ((wt r2.1.1).bind fun r5=>
  ot l nx i r2 r5.1)
  else
  (ot l nx i r2 r2.1.1))

def gu(l:cm):List ay→Nat→dh→Option ((List (List ac))×Int)
 |[],i,ob=>
  (de ob.rows (IntKind.i64.wrap ((ob.rows.length:Int)-(1:Int)))).bind fun e1=>
  some (e1,(0:Int))
 |e::tl,i,ob=>
  (((pw (dF (dF (dF (dF (dF (dF (dF (dF ([]:List (Int×(dh→ay→Option (((List (List ac))×Int)×dh)))) (1:Int) (fun(mc:dh) (mx:ay)=>(lg mc mx).map fun mr=>(mr,mc))) (2:Int) (fun(mc:dh) (mx:ay)=>(j3 mc mx).map fun mr=>(mr,mc))) (3:Int) (fun(mc:dh) (mx:ay)=>(jR mc mx).map fun mr=>(mr,mc))) (4:Int) (fun(mc:dh) (mx:ay)=>(js mc mx).map fun mr=>(mr,mc))) (5:Int) (fun(mc:dh) (mx:ay)=>(jr mc mx).map fun mr=>(mr,mc))) (6:Int) (fun(mc:dh) (mx:ay)=>(iX mc mx).map fun mr=>(mr,mc))) (7:Int) (fun(mc:dh) (mx:ay)=>(kL mc mx).map fun mr=>(mr,mc))) (8:Int) (fun(mc:dh) (mx:ay)=>(kM mc mx).map fun mr=>(mr,mc))) e.Op).getD (fun _ _=>none)) ob (e)).bind fun r2=>
  if((r2.1.2==(0:Int))&&(decide ((8000:Int)<(r2.1.1.length:Int))))then
  (ou l (gu l tl) i e r2 (3:Int))
  else
  (ou l (gu l tl) i e r2 r2.1.2)

def sn(l:cm)(b:kH):Option ((List (List ac))×Int):=
  (sf l).bind fun r=>
  if(r.2 !=(0:Int))then
  (some ([],r.2))
  else
  ((uR l b).bind fun r1=>
  if(!r1)then
  (some ([],(250:Int)))
  else
  (gu l l.Nodes 0 (⟨b,[],[]⟩:dh)))

def E4:Option ay:=
 some (⟨(1:Int),(-1:Int),(-1:Int),(0:Int),[(2:Int)],false,(⟨[]⟩:bS),[],[],[],[],(0:Int)⟩:ay)

def G5(k:Int):Option bS:=
 some (⟨[(⟨(2:Int),(-1:Int),(-1:Int),k,(⟨(0:Int),(0:Int),(0:Int),[]⟩:ac)⟩:bC)]⟩:bS)

def IB(k:Int):Option (List ac):=
 some ([(⟨(2:Int),k,(0:Int),[]⟩:ac)])

def C6:Option kH:=
 (IB (1:Int)).bind fun r=>
 (IB (2:Int)).bind fun r1=>
 some (⟨[[r,r1,[(⟨(0:Int),(0:Int),(0:Int),[]⟩:ac)]]]⟩:kH)

def uH:Option Bool:=
  (E4).bind fun r=>
  (G5 (0:Int)).bind fun r1=>
  (C6).bind fun r2=>
  (sn (⟨[r,(⟨(4:Int),(0:Int),(-1:Int),(0:Int),[],false,(⟨[]⟩:bS),[],[(⟨(1:Int),(⟨[]⟩:bS)⟩:gv),(⟨(3:Int),r1⟩:gv)],[],[],(0:Int)⟩:ay)]⟩:cm) r2).bind fun r3=>
  (if((r3.2==(0:Int))&&((r3.1.length:Int)==(1:Int)))then((de r3.1 (0:Int)).bind fun e=>
  some ((e.length:Int)==(2:Int)))else some false).bind fun t=>
  (if t then((de r3.1 (0:Int)).bind fun e1=>
  (de e1 (0:Int)).bind fun e2=>
  some (e2.N==(3:Int)))else some false).bind fun t1=>
  (if t1 then((de r3.1 (0:Int)).bind fun e3=>
  (de e3 (1:Int)).bind fun e4=>
  some (e4.N==(3:Int)))else some false).bind fun t2=>
  some t2

def lA(nx:Option Bool):List ac→Option Bool
 |[]=>
  nx
 |e1::tl1=>
  if(decide ((200:Int)<(e1.S.length:Int)))then
  (some true)
  else
  ((lA nx tl1))

def iN:List (List ac)→Option Bool
 |[]=>
  some false
 |e::tl=>
  if(decide ((30:Int)<(e.length:Int)))then
  (some true)
  else
  (lA (iN tl) e)

def qt(l:(List (List ac)))(most:Int):Option Bool:=
 if(decide (most<(l.length:Int)))then
 (some true)
 else
 (iN l)

def lB:List bC→Option Bool
 |[]=>
  some false
 |e1::tl=>
  if(decide ((200:Int)<(e1.Value.S.length:Int)))then
  (some true)
  else
  ((lB tl))

def qu(e:bS):Option Bool:=
 if(decide ((100:Int)<(e.Nodes.length:Int)))then
 (some true)
 else
 (lB e.Nodes)

def dw(v:ac):Option Bool:=
  if(v.Kind==(0:Int))then
  (some (decide (v=(⟨(0:Int),(0:Int),(0:Int),[]⟩:ac))))
  else
  (if(v.Kind==(1:Int))then
  (some (((v.U==(0:Int))&&(v.S==([])))&&((v.N==(0:Int))||(v.N==(1:Int)))))
  else
  (if(v.Kind==(2:Int))then
  (some ((v.U==(0:Int))&&(v.S==([]))))
  else
  (if(v.Kind==(3:Int))then
  (some (((v.N==(0:Int))&&(v.U==(0:Int)))&&(decide ((v.S.length:Int)≤(40:Int)))))
  else
  (some ((v.Kind==(4:Int))&&(v.S==([])))))))

def nZ:List ac→Option Bool
 |[]=>
  some true
 |e::tl=>
  (dw e).bind fun r1=>
  if(!r1)then
  (some false)
  else
  ((nZ tl))

def uD(r:(List ac)):Option Bool:=
 if(decide ((16:Int)<(r.length:Int)))then
 (some false)
 else
 (nZ r)

def mg(l:(List (List ac))):List (List ac)→Option Int
 |[]=>
  if(decide ((8000:Int)<(l.length:Int)))then
  (some (3:Int))
  else
  (some (0:Int))
 |e::tl=>
  (uD e).bind fun r=>
  if(!r)then
  (some (150:Int))
  else
  ((mg l tl))

def uE(l:(List (List ac))):Option Int:=
 mg l l

def pu(less:Bool):Option Int:=
 if less then
 (some (-1:Int))
 else
 (some (1:Int))

def nY(a1:ac)(b:ac):Option Int:=
  if(a1.Kind !=b.Kind)then
  ((pu (decide (a1.Kind<b.Kind))).bind fun r=>
  some r)
  else
  (if(a1.N !=b.N)then
  ((pu (decide (a1.N<b.N))).bind fun r1=>
  some r1)
  else
  (if(a1.U !=b.U)then
  ((pu (decide (a1.U<b.U))).bind fun r2=>
  some r2)
  else
  (if(!(a1.S==b.S))then
  ((pu (Op.bytesLess a1.S b.S)).bind fun r3=>
  some r3)
  else
  (some (0:Int)))))

def me(x1:Bool):Option Int:=
 if x1 then
 (some (1:Int))
 else
 (some (-1:Int))

def tK(op:Int)(x:Bool):Option Int:=
  if x then
  (some (2:Int))
  else
  (if(op==(3:Int))then
  (me (op==(3:Int)))
  else
  (if(op==(4:Int))then
  (me (op==(4:Int)))
  else
  (if(op==(5:Int))then
  (me (op==(5:Int)))
  else
  (if(op==(6:Int))then
  (me (op==(6:Int)))
  else
  (me (op==(8:Int)))))))

def xN(op:Int):Option Int:=
  if(op==(1:Int))then
  (some (0:Int))
  else
  (if(op==(2:Int))then
  (tK op (op==(2:Int)))
  else
  (tK op (op==(7:Int))))

def cn:Nat→cm→Int→Option Int
  |0,_,_=>none
  |fu+1,l,at1=>
    if((decide (at1<(0:Int)))||(decide ((l.Nodes.length:Int)≤at1)))then
    (some (0:Int))
    else
    ((de l.Nodes at1).bind fun e=>
    (xN e.Op).bind fun r=>
    if(r==(0:Int))then
    (if((e.A==(-1:Int))&&(e.B==(-1:Int)))then
    (some (1:Int))
    else
    (some (0:Int)))
    else
    (if(r==(1:Int))then
    (if((e.A==(IntKind.i64.wrap (at1-(1:Int))))&&(e.B==(-1:Int)))then
    (((cn fu) l e.A).bind fun r1=>
    if(decide ((0:Int)<r1))then
    (some (IntKind.i64.wrap (r1+(1:Int))))
    else
    (some (0:Int)))
    else
    (some (0:Int)))
    else
    (if(r==(2:Int))then
    (if(e.B==(IntKind.i64.wrap (at1-(1:Int))))then
    (((cn fu) l e.B).bind fun r2=>
    if((decide ((0:Int)<r2))&&(e.A==(IntKind.i64.wrap (e.B-r2))))then
    (((cn fu) l e.A).bind fun r3=>
    if(decide ((0:Int)<r3))then
    (some (IntKind.i64.wrap ((IntKind.i64.wrap (r3+r2))+(1:Int))))
    else
    (some (0:Int)))
    else
    (some (0:Int)))
    else
    (some (0:Int)))
    else
    (some (0:Int)))))

def kU(l:cm)(at1:Int):Option Int:=
 cn ir l at1

def vx(n:ay):Option Bool:=
  if((n.Op !=(1:Int))&&((n.Table !=(0:Int))||(decide ((0:Int)<(n.Kinds.length:Int)))))then
  (some false)
  else
  (if(((n.Op !=(2:Int))&&n.Left)||(((n.Op !=(2:Int))&&(n.Op !=(3:Int)))&&(decide ((0:Int)<(n.Cond.Nodes.length:Int)))))then
  (some false)
  else
  (if(((n.Op !=(4:Int))&&((decide ((0:Int)<(n.Keys.length:Int)))||(decide ((0:Int)<(n.Aggs.length:Int)))))||((n.Op !=(5:Int))&&(decide ((0:Int)<(n.Items.length:Int)))))then
  (some false)
  else
  (some ((n.Op==(8:Int))||(((n.Order.length:Int)==(0:Int))&&(n.Limit==(0:Int)))))))

def xP(tag:Int):Option Int:=
  if((decide (tag<(1:Int)))||(decide ((23:Int)<tag)))then
  (some (-1:Int))
  else
  (if(decide (tag≤(3:Int)))then
  (some (0:Int))
  else
  (if(decide (tag≤(11:Int)))then
  (some (1:Int))
  else
  (some (2:Int))))

def uC(tag:Int):Option Int:=
  if((tag==(3:Int))||((decide ((8:Int)≤tag))&&(decide (tag≤(11:Int)))))then
  (some (-1:Int))
  else
  ((xP tag).bind fun r=>
  some r)

def lw(v:ac):Option Bool:=
 (dw v).bind fun r=>
 some (r&&(v.Kind !=(4:Int)))

def lv(n:bC):Option Bool:=
  if(n.Tag==(1:Int))then
  ((lw n.Value).bind fun r=>
  some (r&&(n.Col==(0:Int))))
  else
  (if(n.Tag==(2:Int))then
  (some (((decide (n.Value=(⟨(0:Int),(0:Int),(0:Int),[]⟩:ac)))&&(decide ((0:Int)≤n.Col)))&&(decide (n.Col<(16:Int)))))
  else
  (some ((decide (n.Value=(⟨(0:Int),(0:Int),(0:Int),[]⟩:ac)))&&(n.Col==(0:Int)))))

def iI:Nat→bS→Int→Option Int
  |0,_,_=>none
  |fu+1,e,place=>
    if((decide (place<(0:Int)))||(decide ((e.Nodes.length:Int)≤place)))then
    (some (0:Int))
    else
    ((de e.Nodes place).bind fun e1=>
    (uC e1.Tag).bind fun r=>
    (if(!(decide (r<(0:Int))))then((lv e1).bind fun r1=>
    some (!r1))else some true).bind fun t=>
    if t then
    (some (0:Int))
    else
    (if(r==(0:Int))then
    (if((e1.L !=(-1:Int))||(e1.R !=(-1:Int)))then
    (some (0:Int))
    else
    (some (1:Int)))
    else
    (((iI fu) e (IntKind.i64.wrap (place-(1:Int)))).bind fun r2=>
    if(r2==(0:Int))then
    (some (0:Int))
    else
    (if(r==(1:Int))then
    (if((e1.L !=(IntKind.i64.wrap (place-(1:Int))))||(e1.R !=(-1:Int)))then
    (some (0:Int))
    else
    (some (IntKind.i64.wrap (r2+(1:Int)))))
    else
    (((iI fu) e (IntKind.i64.wrap ((IntKind.i64.wrap (place-(1:Int)))-r2))).bind fun r3=>
    if(((r3==(0:Int))||(e1.R !=(IntKind.i64.wrap (place-(1:Int)))))||(e1.L !=(IntKind.i64.wrap ((IntKind.i64.wrap (place-(1:Int)))-r2))))then
    (some (0:Int))
    else
    (some (IntKind.i64.wrap ((IntKind.i64.wrap (r3+r2))+(1:Int)))))))))

def Aj(e:bS)(place:Int):Option Int:=
 iI ir e place

def nX(e:bS):Option Bool:=
  (if((decide ((1:Int)≤(e.Nodes.length:Int)))&&(decide ((e.Nodes.length:Int)≤(1000:Int))))then((Aj e (IntKind.i64.wrap ((e.Nodes.length:Int)-(1:Int)))).bind fun r=>
  some (r==(e.Nodes.length:Int)))else some false).bind fun t=>
  some t

def iJ(k:Int)(want:Int):Option Bool:=
 some ((k==want)||(k==(0:Int)))

def jn(tag:Int)(l:Int)(r:Int):Option (Int×Bool):=
  if((tag==(4:Int))||((decide ((12:Int)≤tag))&&(decide (tag≤(15:Int)))))then
  ((iJ l (2:Int)).bind fun r1=>
  (if r1 then((iJ r (2:Int)).bind fun r2=>
  some r2)else some false).bind fun t=>
  some ((2:Int),t))
  else
  (if((tag==(5:Int))||(decide ((22:Int)≤tag)))then
  ((iJ l (1:Int)).bind fun r3=>
  (if r3 then((iJ r (1:Int)).bind fun r4=>
  some r4)else some false).bind fun t1=>
  some ((1:Int),t1))
  else
  (if((tag==(6:Int))||(tag==(7:Int)))then
  (some ((1:Int),true))
  else
  (some ((1:Int),(((l==r)||(l==(0:Int)))||(r==(0:Int)))))))

def rA(nx2:(List Int)→Option (Int×Int))(e3:bC)(own:List Int)(e6:Int)(r1:Int):Option (Int×Int):=
  (jn e3.Tag e6 r1).bind fun r2=>
  if(!r2.2)then
  (some ((0:Int),(201:Int)))
  else
  ((app own ([r2.1])).bind fun own3=>
  nx2 own3)

def dE(kinds:(List Int)):List bC→(List Int)→Option (Int×Int)
  |[],own=>
    (de own (IntKind.i64.wrap ((own.length:Int)-(1:Int)))).bind fun e4=>
    some (e4,(0:Int))
  |e3::tl2,own=>
    if(e3.Tag==(1:Int))then
    ((app own ([e3.Value.Kind])).bind fun own1=>
    (dE kinds tl2) own1)
    else
    (if(e3.Tag==(2:Int))then
    ((de kinds e3.Col).bind fun e5=>
    (app own ([e5])).bind fun own2=>
    (dE kinds tl2) own2)
    else
    ((de own e3.L).bind fun e6=>
    if(decide ((0:Int)≤e3.R))then
    ((de own e3.R).bind fun e7=>
    rA (dE kinds tl2) e3 own e6 e7)
    else
    (rA (dE kinds tl2) e3 own e6 (0:Int))))

def oX(e:bS)(kinds:(List Int)):List bC→Option (Int×Int)
 |[]=>
  dE kinds e.Nodes ([]:List Int)
 |e2::tl1=>
  if((e2.Tag==(2:Int))&&(decide ((kinds.length:Int)≤e2.Col)))then
  (some ((0:Int),(2:Int)))
  else
  ((oX e kinds tl1))

def rz(e:bS)(kinds:(List Int)):List Int→Option (Int×Int)
 |[]=>
  oX e kinds e.Nodes
 |e1::tl=>
  if((decide (e1<(0:Int)))||(decide ((3:Int)<e1)))then
  (some ((0:Int),(2:Int)))
  else
  ((rz e kinds tl))

def tM(e:bS)(kinds:(List Int)):Option (Int×Int):=
 (nX e).bind fun r=>
 if(!r)then
 (some ((0:Int),(200:Int)))
 else
 (rz e kinds kinds)

def uB(e:bS)(kinds:(List Int)):Option Bool:=
 (tM e kinds).bind fun r=>
 some ((r.2==(0:Int))&&((r.1==(0:Int))||(r.1==(1:Int))))

def ld(a1:gv)(kinds:(List Int)):Option (Int×Bool):=
  if(a1.Tag==(1:Int))then
  (some ((2:Int),((a1.Arg.Nodes.length:Int)==(0:Int))))
  else
  ((tM a1.Arg kinds).bind fun r=>
  if(((decide (a1.Tag<(1:Int)))||(decide ((5:Int)<a1.Tag)))||(r.2 !=(0:Int)))then
  (some ((0:Int),false))
  else
  (if(((a1.Tag==(3:Int))&&(r.1 !=(2:Int)))&&(r.1 !=(0:Int)))then
  (some ((0:Int),false))
  else
  (if(decide ((4:Int)≤a1.Tag))then
  (some (r.1,true))
  else
  (some ((2:Int),true)))))

def dH(n:ay):Nat→Bool→Int→Option ((List Int)×Bool)
  |0,_,_=>none
  |n1+1,ok,i=>
    if(decide (i<(n.Kinds.length:Int)))then
    ((if ok then((de n.Kinds i).bind fun e=>
    some (decide ((1:Int)≤e)))else some false).bind fun t=>
    (if t then((de n.Kinds i).bind fun e1=>
    some (decide (e1≤(3:Int))))else some false).bind fun t1=>
    (dH n n1) t1 (IntKind.i64.wrap (i+(1:Int))))
    else
    (some (n.Kinds,((((ok&&(decide ((0:Int)≤n.Table)))&&(decide (n.Table≤(3:Int))))&&(decide ((1:Int)≤(n.Kinds.length:Int))))&&(decide ((n.Kinds.length:Int)≤(4:Int))))))

def d7(n:ay)(a1:(List Int)):Nat→(List Int)→Bool→Int→Option ((List Int)×Bool)
  |0,_,_,_=>none
  |n3+1,out3,ok1,i2=>
    if(decide (i2<(n.Aggs.length:Int)))then
    ((de n.Aggs i2).bind fun e4=>
    (ld e4 a1).bind fun r2=>
    (app out3 ([r2.1])).bind fun out4=>
    (d7 n a1 n3) out4 (ok1&&r2.2) (IntKind.i64.wrap (i2+(1:Int))))
    else
    (some (out3,(((ok1&&(decide ((n.Keys.length:Int)≤(3:Int))))&&(decide ((n.Aggs.length:Int)≤(12:Int))))&&(decide ((0:Int)<(out3.length:Int))))))

def d8(n:ay)(a1:(List Int)):Nat→(List Int)→Int→Option ((List Int)×Bool)
  |0,_,_=>none
  |n2+1,out1,i1=>
    if(decide (i1<(n.Keys.length:Int)))then
    ((de n.Keys i1).bind fun e2=>
    if((decide (e2<(0:Int)))||(decide ((a1.length:Int)≤e2)))then
    (some ([],false))
    else
    ((de a1 e2).bind fun e3=>
    (app out1 ([e3])).bind fun out2=>
    (d8 n a1 n2) out2 (IntKind.i64.wrap (i1+(1:Int)))))
    else
    (d7 n a1 ir out1 true (0:Int))

def d6(n:ay)(a1:(List Int)):Nat→(List Int)→Bool→Int→Option ((List Int)×Bool)
  |0,_,_,_=>none
  |n4+1,out5,ok2,i3=>
    if(decide (i3<(n.Items.length:Int)))then
    ((de n.Items i3).bind fun e5=>
    (tM e5 a1).bind fun r3=>
    (app out5 ([r3.1])).bind fun out6=>
    (d6 n a1 n4) out6 (ok2&&(r3.2==(0:Int))) (IntKind.i64.wrap (i3+(1:Int))))
    else
    (some (out5,((ok2&&(decide ((1:Int)≤(out5.length:Int))))&&(decide ((out5.length:Int)≤(16:Int))))))

def iH(b:(List Int))(nx4:Nat→(List Int)→Bool→Option ((List Int)×Bool))(i4:Nat)(out7:List Int)(ok3:Bool)(k:Int):Option ((List Int)×Bool):=
  (app out7 ([k])).bind fun out8=>
  (if ok3 then((de b (i4:Int)).bind fun e7=>
  (if(!(e7==k))then((de b (i4:Int)).bind fun e8=>
  some (e8==(0:Int)))else some true).bind fun t3=>
  some t3)else some false).bind fun t2=>
  nx4 (i4+1) out8 t2

def dG(b:(List Int)):List Int→Nat→(List Int)→Bool→Option ((List Int)×Bool)
  |[],i4,out7,ok3=>
    some (out7,ok3)
  |e6::tl,i4,out7,ok3=>
    if(e6==(0:Int))then
    ((de b (i4:Int)).bind fun e9=>
    iH b (dG b tl) i4 out7 ok3 e9)
    else
    (iH b (dG b tl) i4 out7 ok3 e6)

def dv(n:ay)(a1:(List Int)):Nat→Bool→Int→Option ((List Int)×Bool)
  |0,_,_=>none
  |n5+1,ok4,i5=>
    if(decide (i5<(n.Order.length:Int)))then
    ((if ok4 then((de n.Order i5).bind fun e10=>
    some (decide ((0:Int)≤e10.Col)))else some false).bind fun t4=>
    (if t4 then((de n.Order i5).bind fun e11=>
    some (decide (e11.Col<(a1.length:Int))))else some false).bind fun t5=>
    (dv n a1 n5) t5 (IntKind.i64.wrap (i5+(1:Int))))
    else
    (some (a1,(((ok4&&(decide ((n.Order.length:Int)≤(3:Int))))&&(decide ((-1:Int)≤n.Limit)))&&(decide (n.Limit≤(2147483647:Int))))))

def bH(n:ay)(a1:(List Int))(b:(List Int)):Option ((List Int)×Bool):=
  if(n.Op==(1:Int))then
  (dH n ir true (0:Int))
  else
  (if(n.Op==(2:Int))then
  ((app ([]:List Int) a1).bind fun l=>
  (app l b).bind fun out=>
  (uB n.Cond out).bind fun r=>
  some (out,r))
  else
  (if(n.Op==(3:Int))then
  ((uB n.Cond a1).bind fun r1=>
  some (a1,r1))
  else
  (if(n.Op==(4:Int))then
  (d8 n a1 ir ([]:List Int) (0:Int))
  else
  (if(n.Op==(5:Int))then
  (d6 n a1 ir ([]:List Int) true (0:Int))
  else
  (if(n.Op==(6:Int))then
  (some (a1,true))
  else
  (if(n.Op==(7:Int))then
  (if((a1.length:Int) !=(b.length:Int))then
  (some ([],false))
  else
  (dG b a1 0 ([]:List Int) true))
  else
  (dv n a1 ir true (0:Int))))))))

def gY(l:cm)(at1:Int)(e1:ay)(a1:(List Int))(b1:(List Int)):Option ((List Int)×Bool):=
 (bH e1 a1 b1).bind fun r2=>
 if(((e1.Op==(8:Int))&&(at1 !=(IntKind.i64.wrap ((l.Nodes.length:Int)-(1:Int)))))||(decide ((16:Int)<(r2.1.length:Int))))then
 (some ([],false))
 else
 (some (r2.1,r2.2))

def eW(self__:cm→Int→Option ((List Int)×Bool))(l:cm)(at1:Int)(e1:ay)(a1:(List Int)):Option ((List Int)×Bool):=
  if(decide ((0:Int)≤e1.B))then
  ((self__ l e1.B).bind fun r3=>
  if(!r3.2)then
  (some ([],false))
  else
  (gY l at1 e1 a1 r3.1))
  else
  (gY l at1 e1 a1 ([]))

def cA:Nat→cm→Int→Option ((List Int)×Bool)
  |0,_,_=>none
  |fu+1,l,at1=>
    (kU l at1).bind fun r=>
    (if(!(r==(0:Int)))then((de l.Nodes at1).bind fun e=>
    (vx e).bind fun r1=>
    some (!r1))else some true).bind fun t=>
    if t then
    (some ([],false))
    else
    ((de l.Nodes at1).bind fun e1=>
    if(decide ((0:Int)≤e1.A))then
    (((cA fu) l e1.A).bind fun r4=>
    if(!r4.2)then
    (some ([],false))
    else
    (eW (cA fu) l at1 e1 r4.1))
    else
    (eW (cA fu) l at1 e1 ([])))

def rY(l:cm)(at1:Int):Option ((List Int)×Bool):=
 cA ir l at1

def fH(l:cm):List ay→Nat→Option Int
 |[],i=>
  (kU l (IntKind.i64.wrap ((l.Nodes.length:Int)-(1:Int)))).bind fun r=>
  if(r !=(l.Nodes.length:Int))then
  (some (IntKind.i64.wrap ((l.Nodes.length:Int)-(1:Int))))
  else
  (some (-1:Int))
 |e::tl,i=>
  (rY l (i:Int)).bind fun r1=>
  if(!r1.2)then
  (some (i:Int))
  else
  ((fH l tl) (i+1))

def rX(l:cm):Option Int:=
 if((decide ((l.Nodes.length:Int)<(1:Int)))||(decide ((60:Int)<(l.Nodes.length:Int))))then
 (some (0:Int))
 else
 (fH l l.Nodes 0)

def C3(l:cm):Option Bool:=
 (rX l).bind fun r=>
 some (decide (r<(0:Int)))

def jQ(n:Int):Option ac:=
 some (⟨(2:Int),n,(0:Int),[]⟩:ac)

def n7(v:ac):Option Bool:=
 (dw v).bind fun r=>
 some (r&&((v.Kind==(0:Int))||(v.Kind==(2:Int))))

def mE(high:Int)(low:Int)(b2:cu):Option cu:=
 some ({({({({b2 with D:=(b2.D.set (0:Int).toNat ((low).tmod (4294967296:Int)))}:cu)with D:=((({b2 with D:=(b2.D.set (0:Int).toNat ((low).tmod (4294967296:Int)))}:cu).D).set (1:Int).toNat ((low).fdiv (2^(min (Int.toNat (32:Int)) IntKind.u64.bits))))}:cu)with D:=((({({b2 with D:=(b2.D.set (0:Int).toNat ((low).tmod (4294967296:Int)))}:cu)with D:=((({b2 with D:=(b2.D.set (0:Int).toNat ((low).tmod (4294967296:Int)))}:cu).D).set (1:Int).toNat ((low).fdiv (2^(min (Int.toNat (32:Int)) IntKind.u64.bits))))}:cu).D).set (2:Int).toNat ((high).tmod (4294967296:Int)))}:cu)with D:=((({({({b2 with D:=(b2.D.set (0:Int).toNat ((low).tmod (4294967296:Int)))}:cu)with D:=((({b2 with D:=(b2.D.set (0:Int).toNat ((low).tmod (4294967296:Int)))}:cu).D).set (1:Int).toNat ((low).fdiv (2^(min (Int.toNat (32:Int)) IntKind.u64.bits))))}:cu)with D:=((({({b2 with D:=(b2.D.set (0:Int).toNat ((low).tmod (4294967296:Int)))}:cu)with D:=((({b2 with D:=(b2.D.set (0:Int).toNat ((low).tmod (4294967296:Int)))}:cu).D).set (1:Int).toNat ((low).fdiv (2^(min (Int.toNat (32:Int)) IntKind.u64.bits))))}:cu).D).set (2:Int).toNat ((high).tmod (4294967296:Int)))}:cu).D).set (3:Int).toNat ((high).fdiv (2^(min (Int.toNat (32:Int)) IntKind.u64.bits))))}:cu)

def qm(n:Int)(u:Int):Option cu:=
  if(decide (n<(0:Int)))then
  (if((IntKind.u64.wrap ((ea .xor .u64 (if IntKind.u64.signed then -1 else IntKind.u64.max) u)+(1:Int)))==(0:Int))then
  (mE (IntKind.u64.wrap ((ea .xor .u64 (if IntKind.u64.signed then -1 else IntKind.u64.max) (IntKind.u64.wrap n))+(1:Int))) (IntKind.u64.wrap ((ea .xor .u64 (if IntKind.u64.signed then -1 else IntKind.u64.max) u)+(1:Int))) (cu.mk (⟨(List.replicate 8 (0:Int)),false⟩:cu).D true))
  else
  (mE (ea .xor .u64 (if IntKind.u64.signed then -1 else IntKind.u64.max) (IntKind.u64.wrap n)) (IntKind.u64.wrap ((ea .xor .u64 (if IntKind.u64.signed then -1 else IntKind.u64.max) u)+(1:Int))) (cu.mk (⟨(List.replicate 8 (0:Int)),false⟩:cu).D true)))
  else
  (mE (IntKind.u64.wrap n) u (⟨(List.replicate 8 (0:Int)),false⟩:cu))

def fN(n:Int):Option cu:=
  if(decide (n<(0:Int)))then
  ((qm (-1:Int) (IntKind.u64.wrap n)).bind fun r=>
  some r)
  else
  ((qm (0:Int) (IntKind.u64.wrap n)).bind fun r1=>
  some r1)

def kE(a1:cu)(b:cu):Nat→Int→Option Bool
  |0,_=>none
  |n+1,i=>
    if(decide ((0:Int)≤i))then
    ((de a1.D i).bind fun e=>
    (de b.D i).bind fun e1=>
    if(e !=e1)then
    (some (decide (e<e1)))
    else
    ((kE a1 b n) (IntKind.i64.wrap (i-(1:Int)))))
    else
    (some false)

def qY(a1:cu)(b:cu):Option Bool:=
 kE a1 b ir (7:Int)

def qX(a1:cu):Option Bool:=
 some (decide (a1.D=(List.replicate 8 (0:Int))))

def gw(a2:cu)(b4:cu):Nat→Nat→Int→cu→Option cu
  |0,i,carry,out=>
    (if out.Below then((qX out).bind fun r=>
    some (!r))else some false).bind fun t=>
    some (cu.mk out.D t)
  |k1+1,i,carry,out=>
    if(a2.Below==b4.Below)then
    ((Qo (i:Int) 8).bind fun u=>
    (de a2.D (i:Int)).bind fun e1=>
    (Qo (i:Int) 8).bind fun u1=>
    (de b4.D (i:Int)).bind fun e2=>
    (Qo (i:Int) 8).bind fun u2=>
    (gw a2 b4 k1) (i+1) (((IntKind.u64.wrap ((IntKind.u64.wrap (e1+e2))+carry))).fdiv (2^(min (Int.toNat (32:Int)) IntKind.u64.bits))) ({out with D:=(out.D.set (i:Int).toNat (((IntKind.u64.wrap ((IntKind.u64.wrap (e1+e2))+carry))).tmod (4294967296:Int)))}:cu))
    else
    ((Qo (i:Int) 8).bind fun u3=>
    (de a2.D (i:Int)).bind fun e3=>
    (Qo (i:Int) 8).bind fun u4=>
    (de b4.D (i:Int)).bind fun e4=>
    (Qo (i:Int) 8).bind fun u5=>
    (gw a2 b4 k1) (i+1) (IntKind.u64.wrap ((1:Int)-(((IntKind.u64.wrap ((IntKind.u64.wrap ((IntKind.u64.wrap (e3+(4294967296:Int)))-e4))-carry))).fdiv (2^(min (Int.toNat (32:Int)) IntKind.u64.bits))))) ({out with D:=(out.D.set (i:Int).toNat (((IntKind.u64.wrap ((IntKind.u64.wrap ((IntKind.u64.wrap (e3+(4294967296:Int)))-e4))-carry))).tmod (4294967296:Int)))}:cu))

def gZ(a2:cu)(b4:cu):Option cu:=
 gw a2 b4 8 0 (0:Int) (⟨(List.replicate 8 (0:Int)),a2.Below⟩:cu)

def lN(a1:cu)(b:cu):Option cu:=
  (if(a1.Below !=b.Below)then((qY a1 b).bind fun r1=>
  some r1)else some false).bind fun t1=>
  if t1 then
  (gZ b a1)
  else
  (gZ a1 b)

def kF(a1:cu)(high:Int)(low:Int):Option (Int×Int×Bool):=
 some ((IntKind.i64.wrap high),low,((decide ((IntKind.i64.wrap high)<(0:Int)))==a1.Below))

def fa(a1:cu)(e:Int)(e1:Int)(e2:Int)(e3:Int):Nat→Nat→Option (Int×Int×Bool)
  |0,i=>
    if a1.Below then
    (if((IntKind.u64.wrap ((ea .xor .u64 (if IntKind.u64.signed then -1 else IntKind.u64.max) (IntKind.u64.wrap ((IntKind.u64.wrap (e2*2^(min (Int.toNat (32:Int)) IntKind.u64.bits)))+e3)))+(1:Int)))==(0:Int))then
    (kF a1 (IntKind.u64.wrap ((ea .xor .u64 (if IntKind.u64.signed then -1 else IntKind.u64.max) (IntKind.u64.wrap ((IntKind.u64.wrap (e*2^(min (Int.toNat (32:Int)) IntKind.u64.bits)))+e1)))+(1:Int))) (IntKind.u64.wrap ((ea .xor .u64 (if IntKind.u64.signed then -1 else IntKind.u64.max) (IntKind.u64.wrap ((IntKind.u64.wrap (e2*2^(min (Int.toNat (32:Int)) IntKind.u64.bits)))+e3)))+(1:Int))))
    else
    (kF a1 (ea .xor .u64 (if IntKind.u64.signed then -1 else IntKind.u64.max) (IntKind.u64.wrap ((IntKind.u64.wrap (e*2^(min (Int.toNat (32:Int)) IntKind.u64.bits)))+e1))) (IntKind.u64.wrap ((ea .xor .u64 (if IntKind.u64.signed then -1 else IntKind.u64.max) (IntKind.u64.wrap ((IntKind.u64.wrap (e2*2^(min (Int.toNat (32:Int)) IntKind.u64.bits)))+e3)))+(1:Int)))))
    else
    (kF a1 (IntKind.u64.wrap ((IntKind.u64.wrap (e*2^(min (Int.toNat (32:Int)) IntKind.u64.bits)))+e1)) (IntKind.u64.wrap ((IntKind.u64.wrap (e2*2^(min (Int.toNat (32:Int)) IntKind.u64.bits)))+e3)))
  |k1+1,i=>
    (de a1.D (i:Int)).bind fun e5=>
    if(e5 !=(0:Int))then
    (some ((0:Int),(0:Int),false))
    else
    ((fa a1 e e1 e2 e3 k1) (i+1))

def tN(a1:cu):Option (Int×Int×Bool):=
 (de a1.D (3:Int)).bind fun e=>
 (de a1.D (2:Int)).bind fun e1=>
 (de a1.D (1:Int)).bind fun e2=>
 (de a1.D (0:Int)).bind fun e3=>
 fa a1 e e1 e2 e3 (8-4) 4

def ij(a1:cu):Option (Int×Bool):=
 (tN a1).bind fun r=>
 some ((IntKind.i64.wrap r.2.1),(r.2.2&&(((r.1==(0:Int))&&(decide ((0:Int)≤(IntKind.i64.wrap r.2.1))))||((r.1==(-1:Int))&&(decide ((IntKind.i64.wrap r.2.1)<(0:Int)))))))

def ql(a1:cu):Option cu:=
  (if(!a1.Below)then((qX a1).bind fun r=>
  some (!r))else some false).bind fun t=>
  some (cu.mk a1.D t)

def iK(a1:cu)(b:cu)(nx:Nat→cu→Option cu)(i:Nat):Nat→Nat→Int→cu→Option cu
 |0,i1,carry,out1=>
  (Qo (IntKind.i64.wrap ((i:Int)+(4:Int))) 8).bind fun u=>
  nx (i+1) ({out1 with D:=(out1.D.set (IntKind.i64.wrap ((i:Int)+(4:Int))).toNat carry)}:cu)
 |k3+1,i1,carry,out1=>
  (Qo (IntKind.i64.wrap ((i:Int)+(i1:Int))) 8).bind fun u1=>
  (de out1.D (IntKind.i64.wrap ((i:Int)+(i1:Int)))).bind fun e2=>
  (de a1.D (i:Int)).bind fun e3=>
  (de b.D (i1:Int)).bind fun e4=>
  (Qo (IntKind.i64.wrap ((i:Int)+(i1:Int))) 8).bind fun u2=>
  (iK a1 b nx i k3) (i1+1) (((IntKind.u64.wrap ((IntKind.u64.wrap (e2+(IntKind.u64.wrap (e3*e4))))+carry))).fdiv (2^(min (Int.toNat (32:Int)) IntKind.u64.bits))) ({out1 with D:=(out1.D.set (IntKind.i64.wrap ((i:Int)+(i1:Int))).toNat (((IntKind.u64.wrap ((IntKind.u64.wrap (e2+(IntKind.u64.wrap (e3*e4))))+carry))).tmod (4294967296:Int)))}:cu)

def eI(a1:cu)(b:cu):Nat→Nat→cu→Option cu
  |0,i,out=>
    (if(a1.Below !=b.Below)then((qX out).bind fun r=>
    some (!r))else some false).bind fun t=>
    some (cu.mk out.D t)
  |k1+1,i,out=>
    iK a1 b (eI a1 b k1) i 4 0 (0:Int) out

def rZ(a1:cu)(b:cu):Option cu:=
 eI a1 b 4 0 (⟨(List.replicate 8 (0:Int)),false⟩:cu)

def mh(a1:cu)(b:cu):Option cu:=
 (de a1.D (1:Int)).bind fun e=>
 (de a1.D (0:Int)).bind fun e1=>
 (de b.D (1:Int)).bind fun e2=>
 (de b.D (0:Int)).bind fun e3=>
 (nz (IntKind.u64.wrap ((IntKind.u64.wrap (e2*2^(min (Int.toNat (32:Int)) IntKind.u64.bits)))+e3))).bind fun _=>
 some (⟨(((List.replicate 8 (0:Int)).set 0 (((IntKind.u64.wrap (((IntKind.u64.wrap ((IntKind.u64.wrap (e*2^(min (Int.toNat (32:Int)) IntKind.u64.bits)))+e1))).tdiv (IntKind.u64.wrap ((IntKind.u64.wrap (e2*2^(min (Int.toNat (32:Int)) IntKind.u64.bits)))+e3))))).tmod (4294967296:Int))).set 1 (((IntKind.u64.wrap (((IntKind.u64.wrap ((IntKind.u64.wrap (e*2^(min (Int.toNat (32:Int)) IntKind.u64.bits)))+e1))).tdiv (IntKind.u64.wrap ((IntKind.u64.wrap (e2*2^(min (Int.toNat (32:Int)) IntKind.u64.bits)))+e3))))).fdiv (2^(min (Int.toNat (32:Int)) IntKind.u64.bits)))),((a1.Below !=b.Below)&&((IntKind.u64.wrap (((IntKind.u64.wrap ((IntKind.u64.wrap (e*2^(min (Int.toNat (32:Int)) IntKind.u64.bits)))+e1))).tdiv (IntKind.u64.wrap ((IntKind.u64.wrap (e2*2^(min (Int.toNat (32:Int)) IntKind.u64.bits)))+e3)))) !=(0:Int)))⟩:cu)

def iL(op:Int)(a1:ac)(b:ac):Option (ac×Int):=
  (dw a1).bind fun r=>
  (if(!(!r))then((dw b).bind fun r1=>
  some (!r1))else some true).bind fun t=>
  if t then
  (some ((⟨(0:Int),(0:Int),(0:Int),[]⟩:ac),(120:Int)))
  else
  ((n7 a1).bind fun r2=>
  (if(!(!r2))then((n7 b).bind fun r3=>
  some (!r3))else some true).bind fun t1=>
  if t1 then
  (some ((⟨(0:Int),(0:Int),(0:Int),[]⟩:ac),(2:Int)))
  else
  (if((a1.Kind==(0:Int))||(b.Kind==(0:Int)))then
  (some ((⟨(0:Int),(0:Int),(0:Int),[]⟩:ac),(0:Int)))
  else
  (if(op==(43:Int))then
  ((fN a1.N).bind fun r4=>
  (fN b.N).bind fun r5=>
  (lN r4 r5).bind fun r6=>
  (ij r6).bind fun r7=>
  if(!r7.2)then
  (some ((⟨(0:Int),(0:Int),(0:Int),[]⟩:ac),(140:Int)))
  else
  ((jQ r7.1).bind fun r8=>
  some (r8,(0:Int))))
  else
  (if(op==(45:Int))then
  ((fN a1.N).bind fun r9=>
  (fN b.N).bind fun r10=>
  (ql r10).bind fun r11=>
  (lN r9 r11).bind fun r12=>
  (ij r12).bind fun r13=>
  if(!r13.2)then
  (some ((⟨(0:Int),(0:Int),(0:Int),[]⟩:ac),(140:Int)))
  else
  ((jQ r13.1).bind fun r14=>
  some (r14,(0:Int))))
  else
  (if(op==(42:Int))then
  ((fN a1.N).bind fun r15=>
  (fN b.N).bind fun r16=>
  (rZ r15 r16).bind fun r17=>
  (ij r17).bind fun r18=>
  if(!r18.2)then
  (some ((⟨(0:Int),(0:Int),(0:Int),[]⟩:ac),(140:Int)))
  else
  ((jQ r18.1).bind fun r19=>
  some (r19,(0:Int))))
  else
  (if(b.N==(0:Int))then
  (some ((⟨(0:Int),(0:Int),(0:Int),[]⟩:ac),(140:Int)))
  else
  ((fN a1.N).bind fun r20=>
  (fN b.N).bind fun r21=>
  (mh r20 r21).bind fun r22=>
  (ij r22).bind fun r23=>
  if(!r23.2)then
  (some ((⟨(0:Int),(0:Int),(0:Int),[]⟩:ac),(140:Int)))
  else
  ((jQ r23.1).bind fun r24=>
  some (r24,(0:Int))))))))))

def jY(b:Bool):Option ac:=
 if b then
 (some (⟨(1:Int),(1:Int),(0:Int),[]⟩:ac))
 else
 (some (⟨(1:Int),(0:Int),(0:Int),[]⟩:ac))

def oB(a1:ac)(b:ac):Option Int:=
  (dw a1).bind fun r=>
  (if(!(!r))then((dw b).bind fun r1=>
  some (!r1))else some true).bind fun t=>
  if t then
  (some (120:Int))
  else
  (if((decide ((1:Int)<a1.Kind))||(decide ((1:Int)<b.Kind)))then
  (some (2:Int))
  else
  (some (0:Int)))

def iQ(a1:ac):Option (ac×Int):=
  (oB a1 a1).bind fun r=>
  if((r !=(0:Int))||(a1.Kind==(0:Int)))then
  (some ((⟨(0:Int),(0:Int),(0:Int),[]⟩:ac),r))
  else
  ((jY (a1.N==(0:Int))).bind fun r1=>
  some (r1,(0:Int)))

def q6(a1:ac)(b:ac):Option (ac×Int):=
  (oB a1 b).bind fun r=>
  (jY false).bind fun r1=>
  if(r !=(0:Int))then
  (some ((⟨(0:Int),(0:Int),(0:Int),[]⟩:ac),r))
  else
  (if((decide (a1=r1))||(decide (b=r1)))then
  (some (r1,(0:Int)))
  else
  (if((a1.Kind==(0:Int))||(b.Kind==(0:Int)))then
  (some ((⟨(0:Int),(0:Int),(0:Int),[]⟩:ac),(0:Int)))
  else
  ((jY true).bind fun r2=>
  some (r2,(0:Int)))))

def vz(a1:ac)(b:ac):Option (ac×Int):=
  (oB a1 b).bind fun r=>
  if(r !=(0:Int))then
  (some ((⟨(0:Int),(0:Int),(0:Int),[]⟩:ac),r))
  else
  ((iQ a1).bind fun r1=>
  (iQ b).bind fun r2=>
  (q6 r1.1 r2.1).bind fun r3=>
  (iQ r3.1).bind fun r4=>
  some (r4.1,r4.2))

def q5(a1:ac)(b:ac):Option Int:=
  (dw a1).bind fun r=>
  (if(!(!r))then((dw b).bind fun r1=>
  some (!r1))else some true).bind fun t=>
  if t then
  (some (120:Int))
  else
  ((lw a1).bind fun r2=>
  (if(!(!r2))then((lw b).bind fun r3=>
  some (!r3))else some true).bind fun t1=>
  if(t1||(((a1.Kind !=(0:Int))&&(b.Kind !=(0:Int)))&&(a1.Kind !=b.Kind)))then
  (some (2:Int))
  else
  (some (0:Int)))

def kI(a1:ac)(b:ac):Nat→Int→Option Int
  |0,_=>none
  |n+1,i=>
    if((decide (i<(a1.S.length:Int)))&&(decide (i<(b.S.length:Int))))then
    ((KS a1.S i).bind fun b1=>
    (KS b.S i).bind fun b2=>
    if(b1 !=b2)then
    ((KS a1.S i).bind fun b3=>
    (KS b.S i).bind fun b4=>
    if(decide (b3<b4))then
    (some (-1:Int))
    else
    (some (1:Int)))
    else
    ((kI a1 b n) (IntKind.i64.wrap (i+(1:Int)))))
    else
    (if((a1.S.length:Int) !=(b.S.length:Int))then
    (if(decide ((a1.S.length:Int)<(b.S.length:Int)))then
    (some (-1:Int))
    else
    (some (1:Int)))
    else
    (some (0:Int)))

def nD(a1:ac)(b:ac):Option Int:=
  (lw a1).bind fun r=>
  (if(!(!r))then((lw b).bind fun r1=>
  some (!r1))else some true).bind fun t=>
  if t then
  (some (0:Int))
  else
  (if(a1.Kind !=b.Kind)then
  (if(decide (a1.Kind<b.Kind))then
  (some (-1:Int))
  else
  (some (1:Int)))
  else
  (if(a1.N !=b.N)then
  (if(decide (a1.N<b.N))then
  (some (-1:Int))
  else
  (some (1:Int)))
  else
  (kI a1 b ir (0:Int))))

def pQ(a1:ac)(b:ac):Option (ac×Int):=
  (q5 a1 b).bind fun r=>
  if(((r !=(0:Int))||(a1.Kind==(0:Int)))||(b.Kind==(0:Int)))then
  (some ((⟨(0:Int),(0:Int),(0:Int),[]⟩:ac),r))
  else
  ((nD a1 b).bind fun r1=>
  (jY (r1==(0:Int))).bind fun r2=>
  some (r2,(0:Int)))

def lO(a1:ac)(b:ac):Option (ac×Int):=
  (q5 a1 b).bind fun r=>
  if(((r !=(0:Int))||(a1.Kind==(0:Int)))||(b.Kind==(0:Int)))then
  (some ((⟨(0:Int),(0:Int),(0:Int),[]⟩:ac),r))
  else
  ((nD a1 b).bind fun r1=>
  (jY (decide (r1<(0:Int)))).bind fun r2=>
  some (r2,(0:Int)))

def xO(tag:Int)(a1:ac)(b:ac):Option (ac×Int):=
  if(tag==(16:Int))then
  ((pQ a1 b).bind fun r=>
  some (r.1,r.2))
  else
  (if(tag==(18:Int))then
  ((lO a1 b).bind fun r1=>
  some (r1.1,r1.2))
  else
  (if(tag==(20:Int))then
  ((lO b a1).bind fun r2=>
  some (r2.1,r2.2))
  else
  (if(tag==(17:Int))then
  ((pQ a1 b).bind fun r3=>
  (iQ r3.1).bind fun r4=>
  some (r4.1,r3.2))
  else
  (if(tag==(19:Int))then
  ((lO b a1).bind fun r5=>
  (iQ r5.1).bind fun r6=>
  some (r6.1,r5.2))
  else
  ((lO a1 b).bind fun r7=>
  (iQ r7.1).bind fun r8=>
  some (r8.1,r7.2))))))

def Ak(tag:Int)(a1:ac)(b:ac):Option (ac×Int):=
  if(tag==(4:Int))then
  ((jQ (0:Int)).bind fun r=>
  (iL (45:Int) r a1).bind fun r1=>
  some (r1.1,r1.2))
  else
  (if(tag==(12:Int))then
  ((iL (43:Int) a1 b).bind fun r2=>
  some (r2.1,r2.2))
  else
  (if(tag==(13:Int))then
  ((iL (45:Int) a1 b).bind fun r3=>
  some (r3.1,r3.2))
  else
  (if(tag==(14:Int))then
  ((iL (42:Int) a1 b).bind fun r4=>
  some (r4.1,r4.2))
  else
  (if(tag==(15:Int))then
  ((iL (47:Int) a1 b).bind fun r5=>
  some (r5.1,r5.2))
  else
  (if(tag==(5:Int))then
  ((iQ a1).bind fun r6=>
  some (r6.1,r6.2))
  else
  (if(tag==(22:Int))then
  ((q6 a1 b).bind fun r7=>
  some (r7.1,r7.2))
  else
  (if(tag==(23:Int))then
  ((vz a1 b).bind fun r8=>
  some (r8.1,r8.2))
  else
  (if(tag==(6:Int))then
  ((jY (a1.Kind==(0:Int))).bind fun r9=>
  some (r9,(0:Int)))
  else
  (if(tag==(7:Int))then
  ((jY (a1.Kind !=(0:Int))).bind fun r10=>
  some (r10,(0:Int)))
  else
  ((xO tag a1 b).bind fun r11=>
  some (r11.1,r11.2)))))))))))

def oZ(nx1:(List ac)→ac→Option (ac×Int))(e2:bC)(own:List ac)(x1:ac)(e5:ac)(b4:ac):Option (ac×Int):=
  (Ak e2.Tag e5 b4).bind fun r2=>
  if(r2.2==(140:Int))then
  (some ((⟨(0:Int),(0:Int),(0:Int),[]⟩:ac),r2.2))
  else
  (if(r2.2 !=(0:Int))then
  (some ((⟨(0:Int),(0:Int),(0:Int),[]⟩:ac),(201:Int)))
  else
  ((app own ([r2.1])).bind fun own3=>
  nx1 own3 x1))

def c0(r:(List ac)):List bC→(List ac)→ac→Option (ac×Int)
  |[],own,x1=>
    (de own (IntKind.i64.wrap ((own.length:Int)-(1:Int)))).bind fun e3=>
    some (e3,(0:Int))
  |e2::tl1,own,x1=>
    if(e2.Tag==(1:Int))then
    ((app own ([e2.Value])).bind fun own1=>
    (c0 r tl1) own1 x1)
    else
    (if(e2.Tag==(2:Int))then
    ((de r e2.Col).bind fun e4=>
    (app own ([e4])).bind fun own2=>
    (c0 r tl1) own2 x1)
    else
    ((de own e2.L).bind fun e5=>
    if(decide ((0:Int)≤e2.R))then
    ((de own e2.R).bind fun e6=>
    oZ (c0 r tl1) e2 own x1 e5 e6)
    else
    (oZ (c0 r tl1) e2 own x1 e5 (⟨(0:Int),(0:Int),(0:Int),[]⟩:ac))))

def oY(e:bS)(r:(List ac)):List bC→ac→Option (ac×Int)
  |[],x=>
    c0 r e.Nodes ([]:List ac) x
  |e1::tl,x=>
    (if(e1.Tag==(2:Int))then((if(!(decide ((r.length:Int)≤e1.Col)))then((de r e1.Col).bind fun e7=>
    (lw e7).bind fun r3=>
    some (!r3))else some true).bind fun t1=>
    some t1)else some false).bind fun t=>
    if t then
    (some ((⟨(0:Int),(0:Int),(0:Int),[]⟩:ac),(2:Int)))
    else
    ((oY e r tl) x)

def wv(e:bS)(r:(List ac)):Option (ac×Int):=
 (nX e).bind fun r1=>
 if(!r1)then
 (some ((⟨(0:Int),(0:Int),(0:Int),[]⟩:ac),(200:Int)))
 else
 (oY e r e.Nodes (⟨(0:Int),(0:Int),(0:Int),[]⟩:ac))

def pP(v:ac):Option Bool:=
 (dw v).bind fun r=>
 some (r&&((v.Kind==(0:Int))||(v.Kind==(4:Int))))

def vy(a1:cu):Option (ac×Int):=
 (tN a1).bind fun r=>
 if(!r.2.2)then
 (some ((⟨(0:Int),(0:Int),(0:Int),[]⟩:ac),(140:Int)))
 else
 (some ((⟨(4:Int),r.1,r.2.1,[]⟩:ac),(0:Int)))

def qZ(s:ac)(v:ac):Option (ac×Int):=
  (dw s).bind fun r=>
  (if(!(!r))then((dw v).bind fun r1=>
  some (!r1))else some true).bind fun t=>
  if t then
  (some ((⟨(0:Int),(0:Int),(0:Int),[]⟩:ac),(120:Int)))
  else
  ((pP s).bind fun r2=>
  (if(!(!r2))then((n7 v).bind fun r3=>
  some (!r3))else some true).bind fun t1=>
  if t1 then
  (some ((⟨(0:Int),(0:Int),(0:Int),[]⟩:ac),(2:Int)))
  else
  (if(v.Kind==(0:Int))then
  (some (s,(0:Int)))
  else
  (if(s.Kind==(0:Int))then
  ((fN v.N).bind fun r4=>
  (vy r4).bind fun r5=>
  some (r5.1,r5.2))
  else
  ((qm s.N s.U).bind fun r6=>
  (fN v.N).bind fun r7=>
  (lN r6 r7).bind fun r8=>
  (vy r8).bind fun r9=>
  some (r9.1,r9.2)))))

def td(s:ac):Option (ac×Int):=
  (dw s).bind fun r=>
  if(!r)then
  (some ((⟨(0:Int),(0:Int),(0:Int),[]⟩:ac),(120:Int)))
  else
  ((pP s).bind fun r1=>
  if(!r1)then
  (some ((⟨(0:Int),(0:Int),(0:Int),[]⟩:ac),(2:Int)))
  else
  (if(s.Kind==(0:Int))then
  (some (s,(0:Int)))
  else
  ((qm s.N s.U).bind fun r2=>
  (ij r2).bind fun r3=>
  if(!r3.2)then
  (some ((⟨(0:Int),(0:Int),(0:Int),[]⟩:ac),(140:Int)))
  else
  ((jQ r3.1).bind fun r4=>
  some (r4,(0:Int))))))

def gn(nx:Int→Int→ac→ac→ac→Option (ac×Int))(n1:Int)(fault1:Int)(x1:ac)(sum1:ac)(best1:ac):Option (ac×Int):=
 nx n1 fault1 x1 sum1 best1

def kT(a1:gv)(nx:Int→Int→ac→ac→ac→Option (ac×Int))(n:Int)(fault:Int)(x:ac)(best:ac)(r3:ac×Int)(sum2:ac):Option (ac×Int):=
  (if(!((IntKind.i64.wrap (n+(1:Int)))==(1:Int)))then((if(a1.Tag==(4:Int))then((nY r3.1 best).bind fun r4=>
  some (decide (r4<(0:Int))))else some false).bind fun t1=>
  some t1)else some true).bind fun t=>
  (if(!t)then((if(a1.Tag==(5:Int))then((nY r3.1 best).bind fun r5=>
  some (decide ((0:Int)<r5)))else some false).bind fun t3=>
  some t3)else some true).bind fun t2=>
  if t2 then
  (gn nx (IntKind.i64.wrap (n+(1:Int))) fault x sum2 r3.1)
  else
  (gn nx (IntKind.i64.wrap (n+(1:Int))) fault x sum2 best)

def d5(a1:gv):List (List ac)→Int→Int→ac→ac→ac→Option (ac×Int)
  |[],n,fault,x,sum,best=>
    if(fault !=(0:Int))then
    (some ((⟨(0:Int),(0:Int),(0:Int),[]⟩:ac),fault))
    else
    (if(a1.Tag==(2:Int))then
    ((jQ n).bind fun r1=>
    some (r1,(0:Int)))
    else
    (if(a1.Tag==(3:Int))then
    ((td sum).bind fun r2=>
    some (r2.1,r2.2))
    else
    (some (best,(0:Int)))))
  |e::tl,n,fault,x,sum,best=>
    (wv a1.Arg e).bind fun r3=>
    if(r3.2==(140:Int))then
    (gn (d5 a1 tl) n r3.2 x sum best)
    else
    (if((r3.2 !=(0:Int))||(((a1.Tag==(3:Int))&&(r3.1.Kind !=(0:Int)))&&(r3.1.Kind !=(2:Int))))then
    (some ((⟨(0:Int),(0:Int),(0:Int),[]⟩:ac),(2:Int)))
    else
    (if(r3.1.Kind==(0:Int))then
    (gn (d5 a1 tl) n fault x sum best)
    else
    (if(a1.Tag==(3:Int))then
    ((qZ sum r3.1).bind fun r6=>
    kT a1 (d5 a1 tl) n fault x best r3 r6.1)
    else
    (kT a1 (d5 a1 tl) n fault x best r3 sum))))

def nk(a1:gv)(l:(List (List ac))):Option (ac×Int):=
  if(a1.Tag==(1:Int))then
  ((jQ (l.length:Int)).bind fun r=>
  some (r,(0:Int)))
  else
  (d5 a1 l (0:Int) (0:Int) (⟨(0:Int),(0:Int),(0:Int),[]⟩:ac) (⟨(0:Int),(0:Int),(0:Int),[]⟩:ac) (⟨(0:Int),(0:Int),(0:Int),[]⟩:ac))

def u6(r:(List ac)):List Int→(List ac)→Option (List ac)
 |[],out=>
  some out
 |e::tl,out=>
  (de r e).bind fun e1=>
  (app out ([e1])).bind fun out1=>
  (u6 r tl) out1

def dU(f:((List ac)→Option Bool)):List (List ac)→Nat→Option Int
 |[],i=>
  some (-1:Int)
 |e::tl,i=>
  (f e).bind fun r=>
  if r then
  (some (i:Int))
  else
  ((dU f tl) (i+1))

def iD(s:(List (List ac)))(f:((List ac)→Option Bool)):Option Int:=
 dU f s 0

def eY(s:(List (List ac)))(f:((List ac)→Option Bool)):Option Bool:=
 (iD s f).bind fun r=>
 some (decide ((0:Int)≤r))

def yG(r:(List ac)):Option Int:=
 (qW r).bind fun r1=>
 if(!r1)then
 (some (150:Int))
 else
 (some (0:Int))

def mq(r:(List ac)):Option Bool:=
 (yG r).bind fun r1=>
 some (r1 !=(0:Int))

def qz(rows:(List (List ac))):Option Bool:=
  (if(decide ((rows.length:Int)≤(8000:Int)))then((eY rows mq).bind fun r=>
  some (!r))else some false).bind fun t=>
  some t

def ke(a1:gv)(rows:(List (List ac)))(ok:Bool):Option (ac×Int):=
  if(!ok)then
  (some ((⟨(0:Int),(0:Int),(0:Int),[]⟩:ac),(2:Int)))
  else
  ((kN a1 rows).bind fun r1=>
  some (r1.1,r1.2))

def ro(a1:gv)(rows:(List (List ac))):Option (ac×Int):=
  (if((decide ((1:Int)≤a1.Tag))&&(decide (a1.Tag≤(5:Int))))then((qz rows).bind fun r=>
  some r)else some false).bind fun t=>
  if(a1.Tag==(1:Int))then
  (ke a1 rows (t&&((a1.Arg.Nodes.length:Int)==(0:Int))))
  else
  ((if t then((ol a1.Arg).bind fun r2=>
  some (r2==(0:Int)))else some false).bind fun t1=>
  ke a1 rows t1)

def gM(a1:gv)(rows:(List (List ac)))(r3:ac×Int)(ok:Bool):Option Bool:=
  if(!ok)then
  (some ((decide (r3.1=(⟨(0:Int),(0:Int),(0:Int),[]⟩:ac)))&&(r3.2==(2:Int))))
  else
  ((nk a1 rows).bind fun r5=>
  some ((r3.2==r5.2)&&(decide (r3.1=r5.1))))

def kp(a1:gv)(rows:(List (List ac))):Option Bool:=
  (uH).bind fun r=>
  if(!r)then
  (some false)
  else
  ((qt rows (100:Int)).bind fun r1=>
  (if(!r1)then((qu a1.Arg).bind fun r2=>
  some r2)else some true).bind fun t=>
  if t then
  (some true)
  else
  ((ro a1 rows).bind fun r3=>
  (if((decide ((1:Int)≤a1.Tag))&&(decide (a1.Tag≤(5:Int))))then((uE rows).bind fun r4=>
  some (r4==(0:Int)))else some false).bind fun t1=>
  if(a1.Tag==(1:Int))then
  (gM a1 rows r3 (t1&&((a1.Arg.Nodes.length:Int)==(0:Int))))
  else
  ((if t1 then((nX a1.Arg).bind fun r6=>
  some r6)else some false).bind fun t2=>
  gM a1 rows r3 t2)))

end Go.Proofs.YtfhhakidodmdfaaGreatDoor

