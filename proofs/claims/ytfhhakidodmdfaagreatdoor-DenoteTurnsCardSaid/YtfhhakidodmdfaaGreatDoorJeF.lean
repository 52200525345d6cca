/- cT of this claim: F. -/
import Derived.Test.YtfhhakidodmdfaaGreatDoorJeD
import Derived.Test.YtfhhakidodmdfaaGreatDoorJeV4
set_option linter.all false
namespace Go.Proofs.YtfhhakidodmdfaaGreatDoor
open Go

def fq(f:(Int→Option Bool)):List Int→Nat→Option Int
 |[],i=>
  some (-1:Int)
 |e::tl,i=>
  (f e).bind fun r=>
  if r then
  (some (i:Int))
  else
  ((fq f tl) (i+1))

def ld(s:(List Int))(f:(Int→Option Bool)):Option Int:=
 fq f s 0

def cz(s:(List Int))(f:(Int→Option Bool)):Option Bool:=
 (ld s f).bind fun r=>
 some (decide ((0:Int)≤r))

def CC(k:Int):Option Bool:=
 some (((k==(1:Int))||(k==(2:Int)))||(k==(3:Int)))

def ji(k:Int):Option Bool:=
 (CC k).bind fun r=>
 some (!r)

def fS(c:aC)(n:ak):Option ((List Int)×Bool):=
  (if((((decide ((0:Int)≤n.Table))&&(decide (n.Table<(4:Int))))&&(decide ((1:Int)≤(n.Kinds.length:Int))))&&(decide ((n.Kinds.length:Int)≤(4:Int))))then((cz n.Kinds ji).bind fun r=>
  some (!r))else some false).bind fun t=>
  some (n.Kinds,t)

def mo(s:List Int):Option (List Int):=
 some s

def mp(n:Int):Option (List Int):=
  if(decide ((0:Int)<(IntKind.i64.wrap (n-(IntKind.i64.wrap ((0:Int)-(0:Int)))))))then
  ((Wf (IntKind.i64.wrap (n-(IntKind.i64.wrap ((0:Int)-(0:Int)))))).bind fun _=>
  (nD (IntKind.i64.wrap (n-(IntKind.i64.wrap ((0:Int)-(0:Int))))) (0:Int)).bind fun mk=>
  (dj mk 0 (0:Int)).bind fun y=>
  mo y)
  else
  (mo ([]:List Int))

def lx(n:Int):Option (List Int):=
 if(decide (n<(0:Int)))then
 (none)
 else
 (mp n)

def iY:List (List Int)→(List Int)→Option (List Int)
 |[],newslice=>
  some newslice
 |e1::tl1,newslice=>
  (app newslice e1).bind fun newslice1=>
  (iY tl1) newslice1

def iZ(slices:(List (List Int))):List (List Int)→Int→Option (List Int)
 |[],size=>
  (lx size).bind fun r=>
  iY slices r
 |e::tl,size=>
  if(decide ((IntKind.i64.wrap (size+(e.length:Int)))<(0:Int)))then
  (none)
  else
  ((iZ slices tl) (IntKind.i64.wrap (size+(e.length:Int))))

def iG(slices:(List (List Int))):Option (List Int):=
 iZ slices slices (0:Int)

def o9(tag:Int):Option Int:=
  if((tag==(1:Int))||(tag==(2:Int)))then
  (some (0:Int))
  else
  (if((decide ((4:Int)≤tag))&&(decide (tag≤(7:Int))))then
  (some (1:Int))
  else
  (if((decide ((12:Int)≤tag))&&(decide (tag≤(23:Int))))then
  (some (2:Int))
  else
  (some (-1:Int))))

def j8(v1:ac):Option ac:=
 some v1

def pH(v2:ac):Option ac:=
 j8 (ac.mk (0:Int) v2.N v2.U v2.S)

def pG(v:ac):Option ac:=
 pH (ac.mk v.Kind (0:Int) v.U v.S)

def pF(v3:ac):Option ac:=
 j8 v3

def wX(v:ac):Option ac:=
  if(v.Kind==(1:Int))then
  (if((v.N !=(0:Int))&&(v.N !=(1:Int)))then
  (j8 v)
  else
  (pG v))
  else
  (if(v.Kind==(2:Int))then
  (pG v)
  else
  (if(v.Kind==(0:Int))then
  (pH v)
  else
  (if(v.Kind==(3:Int))then
  (if(decide ((v.S.length:Int)≤(40:Int)))then
  (pF (ac.mk (0:Int) v.N v.U ([])))
  else
  (pF v))
  else
  (if(v.Kind==(4:Int))then
  (j8 (ac.mk (0:Int) (0:Int) (0:Int) v.S))
  else
  (j8 v)))))

def kR(v:ac):Option Int:=
 (wX v).bind fun r=>
 if(!decide (r=(⟨(0:Int),(0:Int),(0:Int),[]⟩:ac)))then
 (some (120:Int))
 else
 (some (0:Int))

def ma(v:ac):Option Bool:=
 (kR v).bind fun r=>
 some ((r==(0:Int))&&(v.Kind !=(4:Int)))

def ue(n:bm):Option Bool:=
  if(n.Tag==(1:Int))then
  ((ma n.Value).bind fun r=>
  some (r&&(n.Col==(0:Int))))
  else
  (if(n.Tag==(2:Int))then
  (some (((decide (n.Value=(⟨(0:Int),(0:Int),(0:Int),[]⟩:ac)))&&(decide ((0:Int)≤n.Col)))&&(decide (n.Col<(16:Int)))))
  else
  (some ((decide (n.Value=(⟨(0:Int),(0:Int),(0:Int),[]⟩:ac)))&&(n.Col==(0:Int)))))

def lR(nx:Nat→(List Int)→(List Int)→Option ((List Int)×Bool))(i:Nat)(e1:bm)(all:List Int)(open1:List Int)(r:Int):List Int→Nat→Int→(List Int)→Option ((List Int)×Bool)
  |[],i1,first,at1=>
    if(!decide (at1=([e1.L,e1.R])))then
    (some ([],false))
    else
    ((app all ([first])).bind fun all1=>
    (dj open1 0 (IntKind.i64.wrap ((open1.length:Int)-r))).bind fun y1=>
    (app y1 ([(i:Int)])).bind fun open2=>
    nx (i+1) all1 open2)
  |e2::tl1,i1,first,at1=>
    (cR all e2).bind fun e3=>
    (cR at1 (i1:Int)).bind fun e4=>
    (some (at1.set (i1:Int).toNat e2)).bind fun ar=>
    (lR nx i e1 all open1 r tl1) (i1+1) (min first e3) ar

def ko:List bm→Nat→(List Int)→(List Int)→Option ((List Int)×Bool)
  |[],i,all,open1=>
    some (all,(((open1.length:Int)==(1:Int))&&(decide ((all.length:Int)≤(1000:Int)))))
  |e1::tl,i,all,open1=>
    (o9 e1.Tag).bind fun r=>
    (if(!((decide (r<(0:Int)))||(decide ((open1.length:Int)<r))))then((ue e1).bind fun r1=>
    some (!r1))else some true).bind fun t=>
    if t then
    (some ([],false))
    else
    ((dj open1 (IntKind.i64.wrap ((open1.length:Int)-r)) (open1.length:Int)).bind fun y=>
    lR (ko tl) i e1 all open1 r y 0 (i:Int) ([(-1:Int),(-1:Int)]))

def xz(e:bK):Option ((List Int)×Bool):=
 ko e.Nodes 0 ([]:List Int) ([]:List Int)

def qA(e:bK):Option Int:=
 (xz e).bind fun r=>
 if(!r.2)then
 (some (200:Int))
 else
 (some (0:Int))

def dZ(i:Nat)(y:List Int):Nat→Nat→(List Int)→Int→Option (List Int)
  |0,i1,s1,k=>
    (dj s1 k (s1.length:Int)).bind fun y1=>
    (some (s1.take k.toNat++List.replicate y1.length (0:Int))).bind fun cl=>
    (dj cl 0 k).bind fun y2=>
    some y2
  |k2+1,i1,s1,k=>
    (xr s1 (i:Int) y.length (i1:Int)).bind fun e3=>
    (xr s1 (i:Int) y.length (IntKind.i64.wrap ((i1:Int)-(1:Int)))).bind fun e4=>
    if(e3 !=e4)then
    ((xr s1 (i:Int) y.length (i1:Int)).bind fun e5=>
    (cR s1 k).bind fun e6=>
    (some (s1.set k.toNat e5)).bind fun st=>
    (dZ i y k2) (i1+1) st (IntKind.i64.wrap (k+(1:Int))))
    else
    ((dZ i y k2) (i1+1) s1 k)

def eJ(s:(List Int)):List Int→Nat→Option (List Int)
  |[],i=>
    some s
  |e::tl,i=>
    (cR s (IntKind.i64.wrap ((i:Int)-(1:Int)))).bind fun e1=>
    if(e==e1)then
    ((dj s (i:Int) (s.length:Int)).bind fun y=>
    dZ i y (y.length-1) 1 s (i:Int))
    else
    ((eJ s tl) (i+1))

def hZ(s:(List Int)):Option (List Int):=
 if(decide ((s.length:Int)<(2:Int)))then
 (some s)
 else
 (eJ s (s.drop (1)) 1)

def mI:List bm→(List Int)→Option (List Int)
  |[],out=>
    (zt out).bind fun rC=>
    (hZ rC).bind fun r1=>
    some r1
  |e1::tl,out=>
    if(e1.Tag==(2:Int))then
    ((app out ([e1.Col])).bind fun out1=>
    (mI tl) out1)
    else
    ((mI tl) out)

def su(e:bK):Option (List Int):=
 (qA e).bind fun r=>
 if(r !=(0:Int))then
 (some ([]:List Int))
 else
 (mI e.Nodes ([]:List Int))

def cx(s:(List Int)):Option (List Int):=
 (app ([]:List Int) s).bind fun x=>
 some x

def oQ(stack:(List Int))(k:Int):Option ((List Int)×(List Int)):=
 (dj stack (IntKind.i64.wrap ((stack.length:Int)-k)) (stack.length:Int)).bind fun y=>
 (cx y).bind fun r=>
 (dj stack 0 (IntKind.i64.wrap ((stack.length:Int)-k))).bind fun y1=>
 some (r,y1)

def lQ(bad:Int)(stack:List Int):Option (Int×Int):=
  if(bad !=(0:Int))then
  (some ((0:Int),bad))
  else
  ((cR stack (0:Int)).bind fun e1=>
  some (e1,(0:Int)))

def gT(do1:(bm→(List Int)→Option (Int×Int))):List bm→Int→(List Int)→Option (Int×Int)
  |[],bad1,stack1=>
    lQ bad1 stack1
  |e2::tl,bad1,stack1=>
    (o9 e2.Tag).bind fun r=>
    (oQ stack1 r).bind fun r1=>
    (do1 e2 r1.1).bind fun r2=>
    if(r2.2 !=(0:Int))then
    (lQ r2.2 r1.2)
    else
    ((app r1.2 ([r2.1])).bind fun l2=>
    (gT do1 tl) bad1 l2)

def oK(e:bK)(do1:(bm→(List Int)→Option (Int×Int))):Option (Int×Int):=
 gT do1 e.Nodes (0:Int) ([]:List Int)

def wp(tag:Int):Option Bool:=
 some ((tag==(4:Int))||((decide ((12:Int)≤tag))&&(decide (tag≤(15:Int)))))

def lS(kinds:(List Int))(n:bm):List Int→Int→Option (Int×Int)
  |[],own=>
    if(n.Tag==(1:Int))then
    (some (n.Value.Kind,(0:Int)))
    else
    (if(n.Tag==(2:Int))then
    ((cR kinds n.Col).bind fun e1=>
    some (e1,(0:Int)))
    else
    ((wp n.Tag).bind fun r=>
    if r then
    (if((own==(-1:Int))||((own !=(0:Int))&&(own !=(2:Int))))then
    (some ((0:Int),(201:Int)))
    else
    (some ((2:Int),(0:Int))))
    else
    (if(((n.Tag==(5:Int))||(n.Tag==(22:Int)))||(n.Tag==(23:Int)))then
    (if((own==(-1:Int))||((own !=(0:Int))&&(own !=(1:Int))))then
    (some ((0:Int),(201:Int)))
    else
    (some ((1:Int),(0:Int))))
    else
    (if((own==(-1:Int))||((own !=(0:Int))&&(own !=own)))then
    (some ((0:Int),(201:Int)))
    else
    (some ((1:Int),(0:Int)))))))
  |e::tl,own=>
    if((e==(0:Int))||(e==own))then
    ((lS kinds n tl) own)
    else
    (if(own==(0:Int))then
    ((lS kinds n tl) e)
    else
    ((lS kinds n tl) (-1:Int)))

def jl(kinds:(List Int))(n:bm)(l:(List Int)):Option (Int×Int):=
 lS kinds n l (0:Int)

def mH(e:bK)(kinds:(List Int)):List Int→Option (Int×Int)
 |[]=>
  (oK e (jl kinds)).bind fun r2=>
  some (r2.1,r2.2)
 |e2::tl1=>
  if(decide ((kinds.length:Int)≤e2))then
  (some ((0:Int),(2:Int)))
  else
  ((mH e kinds tl1))

def pX(e:bK)(kinds:(List Int)):List Int→Option (Int×Int)
 |[]=>
  (su e).bind fun r1=>
  mH e kinds r1
 |e1::tl=>
  if((decide (e1<(0:Int)))||(decide ((3:Int)<e1)))then
  (some ((0:Int),(2:Int)))
  else
  ((pX e kinds tl))

def sr(e:bK)(kinds:(List Int)):Option (Int×Int):=
 (qA e).bind fun r=>
 if(r !=(0:Int))then
 (some ((0:Int),r))
 else
 (pX e kinds kinds)

def q9(e:bK)(kinds:(List Int)):Option Bool:=
 (sr e kinds).bind fun r=>
 some ((r.2==(0:Int))&&((r.1==(1:Int))||(r.1==(0:Int))))

def gI(c:aC)(n:ak):Option ((List Int)×Bool):=
 (cR c.kinds n.A).bind fun e=>
 (cR c.kinds n.B).bind fun e1=>
 (iG ([e,e1])).bind fun r=>
 (q9 n.Cond r).bind fun r1=>
 some (r,r1)

def fT(c:aC)(n:ak):Option ((List Int)×Bool):=
 (cR c.kinds n.A).bind fun e=>
 (q9 n.Cond e).bind fun r=>
 some (e,r)

def pP(kinds:(List Int))(c:Int):Option Bool:=
 some ((decide (c<(0:Int)))||(decide ((kinds.length:Int)≤c)))

def rY(l:(List Int))(kinds:(List Int)):Option Bool:=
 (cz l (pP kinds)).bind fun r=>
 some (!r)

def r0(r:Int×Int)(x:Bool):Option (Int×Bool):=
 if x then
 (some (r.1,(r.2==(0:Int))))
 else
 (some ((0:Int),false))

def yf(a1:gM)(kinds:(List Int)):Option (Int×Bool):=
  if(a1.Tag==(1:Int))then
  (some ((2:Int),((a1.Arg.Nodes.length:Int)==(0:Int))))
  else
  ((sr a1.Arg kinds).bind fun r=>
  if(a1.Tag==(2:Int))then
  (some ((2:Int),(r.2==(0:Int))))
  else
  (if(a1.Tag==(3:Int))then
  (some ((2:Int),((r.2==(0:Int))&&((r.1==(2:Int))||(r.1==(0:Int))))))
  else
  (if(a1.Tag==(4:Int))then
  (r0 r (a1.Tag==(4:Int)))
  else
  (r0 r (a1.Tag==(5:Int))))))

def eS(e:(List Int)):List gM→(List Int)→Bool→Option ((List Int)×Bool)
 |[],out1,ok=>
  some (out1,ok)
 |e2::tl1,out1,ok=>
  (yf e2 e).bind fun r1=>
  (app out1 ([r1.1])).bind fun out2=>
  (eS e tl1) out2 (ok&&r1.2)

def gh(n:ak)(e:(List Int))(t:Bool):List Int→(List Int)→Option ((List Int)×Bool)
 |[],out=>
  eS e n.Aggs out t
 |e1::tl,out=>
  (cR e e1).bind fun e3=>
  (app out ([e3])).bind fun out3=>
  (gh n e t tl) out3

def gq(c:aC)(n:ak):Option ((List Int)×Bool):=
  (cR c.kinds n.A).bind fun e=>
  (if(((decide ((n.Keys.length:Int)≤(3:Int)))&&(decide ((n.Aggs.length:Int)≤(12:Int))))&&(decide ((0:Int)<(IntKind.i64.wrap ((n.Keys.length:Int)+(n.Aggs.length:Int))))))then((rY n.Keys e).bind fun r=>
  some r)else some false).bind fun t=>
  if(!t)then
  (some ([],false))
  else
  (gh n e t n.Keys ([]:List Int))

def fd(c:aC)(n:ak):List bK→(List Int)→Bool→Option ((List Int)×Bool)
 |[],out,ok=>
  some (out,ok)
 |e::tl,out,ok=>
  (cR c.kinds n.A).bind fun e1=>
  (sr e e1).bind fun r=>
  (app out ([r.1])).bind fun out1=>
  (fd c n tl) out1 (ok&&(r.2==(0:Int)))

def fj(c:aC)(n:ak):Option ((List Int)×Bool):=
 fd c n n.Items ([]:List Int) ((decide ((1:Int)≤(n.Items.length:Int)))&&(decide ((n.Items.length:Int)≤(16:Int))))

def eT(c:aC)(n:ak):Option ((List Int)×Bool):=
 (cR c.kinds n.A).bind fun e=>
 some (e,true)

def ig(nx:Nat→(List Int)→Bool→Option ((List Int)×Bool))(i:Nat)(e2:Int)(ok:Bool)(out1:List Int):Option ((List Int)×Bool):=
  (if ok then((cR out1 (i:Int)).bind fun e3=>
  some ((e3==e2)||(e2==(0:Int))))else some false).bind fun t=>
  nx (i+1) out1 t

def dE:List Int→Nat→(List Int)→Bool→Option ((List Int)×Bool)
  |[],i,out,ok=>
    some (out,ok)
  |e2::tl,i,out,ok=>
    (cR out (i:Int)).bind fun e4=>
    if(e4==(0:Int))then
    ((some (out.set (i:Int).toNat e2)).bind fun st=>
    ig (dE tl) i e2 ok st)
    else
    (ig (dE tl) i e2 ok out)

def gn(c:aC)(n:ak):Option ((List Int)×Bool):=
  (cR c.kinds n.A).bind fun e=>
  (cR c.kinds n.B).bind fun e1=>
  if((e.length:Int) !=(e1.length:Int))then
  (some ([],false))
  else
  ((cx e).bind fun r=>
  dE e1 0 r true)

def dG(f:(gE→Option Bool)):List gE→Nat→Option Int
 |[],i=>
  some (-1:Int)
 |e::tl,i=>
  (f e).bind fun r=>
  if r then
  (some (i:Int))
  else
  ((dG f tl) (i+1))

def hU(s:(List gE))(f:(gE→Option Bool)):Option Int:=
 dG f s 0

def ek(s:(List gE))(f:(gE→Option Bool)):Option Bool:=
 (hU s f).bind fun r=>
 some (decide ((0:Int)≤r))

def kq(in1:(List Int))(o:gE):Option Bool:=
 some ((decide (o.Col<(0:Int)))||(decide ((in1.length:Int)≤o.Col)))

def gp(c:aC)(n:ak):Option ((List Int)×Bool):=
  (cR c.kinds n.A).bind fun e=>
  (if(decide ((n.Order.length:Int)≤(3:Int)))then((ek n.Order (kq e)).bind fun r=>
  some (!r))else some false).bind fun t=>
  some (e,(((t&&(decide ((-1:Int)≤n.Limit)))&&(decide (n.Limit≤(2147483647:Int))))&&((c.kinds.length:Int)==(IntKind.i64.wrap ((c.Logic.Nodes.length:Int)-(1:Int))))))

def s0(n:ak):Option Bool:=
 some (((((((((n.Table==(0:Int))&&((n.Kinds.length:Int)==(0:Int)))&&(!n.Left))&&((n.Cond.Nodes.length:Int)==(0:Int)))&&((n.Keys.length:Int)==(0:Int)))&&((n.Aggs.length:Int)==(0:Int)))&&((n.Items.length:Int)==(0:Int)))&&((n.Order.length:Int)==(0:Int)))&&(n.Limit==(0:Int)))

def s4(n:ak):Option ak:=
  if(n.Op==(1:Int))then
  (some (ak.mk n.Op n.A n.B (0:Int) ([]) n.Left n.Cond n.Keys n.Aggs n.Items n.Order n.Limit))
  else
  (if(n.Op==(2:Int))then
  (some (ak.mk n.Op n.A n.B n.Table n.Kinds false (⟨[]⟩:bK) n.Keys n.Aggs n.Items n.Order n.Limit))
  else
  (if(n.Op==(3:Int))then
  (some (ak.mk n.Op n.A n.B n.Table n.Kinds n.Left (⟨[]⟩:bK) n.Keys n.Aggs n.Items n.Order n.Limit))
  else
  (if(n.Op==(4:Int))then
  (some (ak.mk n.Op n.A n.B n.Table n.Kinds n.Left n.Cond ([]) ([]) n.Items n.Order n.Limit))
  else
  (if(n.Op==(5:Int))then
  (some (ak.mk n.Op n.A n.B n.Table n.Kinds n.Left n.Cond n.Keys n.Aggs ([]) n.Order n.Limit))
  else
  (if(n.Op==(8:Int))then
  (some (ak.mk n.Op n.A n.B n.Table n.Kinds n.Left n.Cond n.Keys n.Aggs n.Items ([]) (0:Int)))
  else
  (some n))))))

def pQ(x:Bool):Option Int:=
 if x then
 (some (2:Int))
 else
 (some (1:Int))

def tY(op:Int):Option Int:=
  if(op==(1:Int))then
  (some (0:Int))
  else
  (if(op==(2:Int))then
  (pQ (op==(2:Int)))
  else
  (pQ (op==(7:Int))))

def jE(c:aC)(i:Int):Option (Int×Bool):=
  (cR c.Logic.Nodes i).bind fun e=>
  (tY e.Op).bind fun r=>
  if(r==(0:Int))then
  (some (i,((e.A==(-1:Int))&&(e.B==(-1:Int)))))
  else
  (if(r==(1:Int))then
  (if(((e.A !=(IntKind.i64.wrap (i-(1:Int))))||(e.B !=(-1:Int)))||(i==(0:Int)))then
  (some ((0:Int),false))
  else
  ((cR c.first e.A).bind fun e1=>
  some (e1,true)))
  else
  ((if(!((e.B !=(IntKind.i64.wrap (i-(1:Int))))||(i==(0:Int))))then((cR c.first e.B).bind fun e2=>
  some (e.A !=(IntKind.i64.wrap (e2-(1:Int)))))else some true).bind fun t=>
  if(t||(decide (e.A<(0:Int))))then
  (some ((0:Int),false))
  else
  ((cR c.first e.A).bind fun e3=>
  some (e3,true))))

def gi{Sg:Type}(yld:(Int×Bool)→Sg→Option (Bool×Sg))(nx:Nat→Sg→aC→Option (Sg×aC))(i:Nat)(s1:Sg)(ok1:Bool)(kinds:(List Int))(ob2:aC):Option (Sg×aC):=
 (app ob2.kinds ([kinds])).bind fun l6=>
 (yld ((i:Int),(ok1&&(decide ((kinds.length:Int)≤(16:Int))))) s1).bind fun r2=>
 if((!r2.1)||(!(ok1&&(decide ((kinds.length:Int)≤(16:Int))))))then
 (some (r2.2,({ob2 with kinds:=l6}:aC)))
 else
 (nx (i+1) r2.2 ({ob2 with kinds:=l6}:aC))

def d4{Sg:Type}(yld:(Int×Bool)→Sg→Option (Bool×Sg))(nx:Nat→Sg→aC→Option (Sg×aC))(i:Nat)(e2:ak)(s1:Sg)(ok:Bool)(ob1:aC):Option (Sg×aC):=
  if ok then
  ((((kD (cY (cY (cY (cY (cY (cY (cY (cY ([]:List (Int×(aC→ak→Option (((List Int)×Bool)×aC)))) (1:Int) (fun(mc:aC) (mx:ak)=>(fS mc mx).map fun mr=>(mr,mc))) (2:Int) (fun(mc:aC) (mx:ak)=>(gI mc mx).map fun mr=>(mr,mc))) (3:Int) (fun(mc:aC) (mx:ak)=>(fT mc mx).map fun mr=>(mr,mc))) (4:Int) (fun(mc:aC) (mx:ak)=>(gq mc mx).map fun mr=>(mr,mc))) (5:Int) (fun(mc:aC) (mx:ak)=>(fj mc mx).map fun mr=>(mr,mc))) (6:Int) (fun(mc:aC) (mx:ak)=>(eT mc mx).map fun mr=>(mr,mc))) (7:Int) (fun(mc:aC) (mx:ak)=>(gn mc mx).map fun mr=>(mr,mc))) (8:Int) (fun(mc:aC) (mx:ak)=>(gp mc mx).map fun mr=>(mr,mc))) e2.Op).getD (fun _ _=>none)) ob1 (e2)).bind fun r3=>
  gi yld nx i s1 r3.1.2 r3.1.1 r3.2)
  else
  (gi yld nx i s1 ok ([]) ob1)

def bD{Sg:Type}(yld:(Int×Bool)→Sg→Option (Bool×Sg)):List ak→Nat→Sg→aC→Option (Sg×aC)
  |[],i,s1,ob=>
    some (s1,ob)
  |e2::tl,i,s1,ob=>
    (if((kD (cY (cY (cY (cY (cY (cY (cY (cY ([]:List (Int×(aC→ak→Option (((List Int)×Bool)×aC)))) (1:Int) (fun(mc:aC) (mx:ak)=>(fS mc mx).map fun mr=>(mr,mc))) (2:Int) (fun(mc:aC) (mx:ak)=>(gI mc mx).map fun mr=>(mr,mc))) (3:Int) (fun(mc:aC) (mx:ak)=>(fT mc mx).map fun mr=>(mr,mc))) (4:Int) (fun(mc:aC) (mx:ak)=>(gq mc mx).map fun mr=>(mr,mc))) (5:Int) (fun(mc:aC) (mx:ak)=>(fj mc mx).map fun mr=>(mr,mc))) (6:Int) (fun(mc:aC) (mx:ak)=>(eT mc mx).map fun mr=>(mr,mc))) (7:Int) (fun(mc:aC) (mx:ak)=>(gn mc mx).map fun mr=>(mr,mc))) (8:Int) (fun(mc:aC) (mx:ak)=>(gp mc mx).map fun mr=>(mr,mc))) e2.Op).isSome)then((s4 e2).bind fun r=>
    (s0 r).bind fun r1=>
    some r1)else some false).bind fun t=>
    if t then
    ((jE ob (i:Int)).bind fun r4=>
    (app ob.first ([r4.1])).bind fun l7=>
    d4 yld (bD yld tl) i e2 s1 r4.2 ({ob with first:=l7}:aC))
    else
    (d4 yld (bD yld tl) i e2 s1 t ob)

def ly{Sg:Type}(c:aC)(yld:(Int×Bool)→Sg→Option (Bool×Sg))(s:Sg):Option (Sg×aC):=
 bD yld c.Logic.Nodes 0 s c

def pR(c:aC):Option (O6 (Int×Bool) aC):=
 some (fun _=>ly c)

def oJ(x:Int×Bool)(x1:Bool)(x2:Int)(p:Bool):Option (Option Nat×(Bool×Int×Bool)):=
 if(!x.2)then
 (some (some 0,(false,x.1,true)))
 else
 (some (none,(x1,x2,p)))

def o7(l:bE):Option (aC×Int×Bool):=
  if((decide ((l.Nodes.length:Int)<(1:Int)))||(decide ((60:Int)<(l.Nodes.length:Int))))then
  (some ((⟨l,[],[]⟩:aC),(0:Int),false))
  else
  ((pR (⟨l,[],[]⟩:aC)).bind fun it=>
  (it (Option Nat×(Bool×Int×Bool)) (wq (fun x s=>oJ x s.1 s.2.1 s.2.2)) (none,(false,(0:Int),false))).bind fun r=>
  if r.1.1.isNone then
  ((cR r.2.first (IntKind.i64.wrap ((l.Nodes.length:Int)-(1:Int)))).bind fun e=>
  some (r.2,(IntKind.i64.wrap ((l.Nodes.length:Int)-(1:Int))),(e==(0:Int))))
  else
  ((isT r.1.2.2.2).bind fun _=>
  some (r.2,r.1.2.2.1,r.1.2.1)))

def pn(l:bE):Option (Int×Int):=
 (o7 l).bind fun r=>
 if(!r.2.2)then
 (some (r.2.1,(230:Int)))
 else
 (some ((0:Int),(0:Int)))

def lU(kinds:(List Int))(nx:Option Bool):List ac→Nat→Option Bool
  |[],i1=>
    nx
  |e1::tl1,i1=>
    (kR e1).bind fun r=>
    (if(!(r !=(0:Int)))then((if(e1.Kind !=(0:Int))then((cR kinds (i1:Int)).bind fun e2=>
    some (e1.Kind !=e2))else some false).bind fun t1=>
    some t1)else some true).bind fun t=>
    if t then
    (some false)
    else
    ((lU kinds nx tl1) (i1+1))

def lV(kinds:(List Int)):List (List ac)→Option Bool
 |[]=>
  some true
 |e::tl=>
  if((e.length:Int) !=(kinds.length:Int))then
  (some false)
  else
  (lU kinds (lV kinds tl) e 0)

def rf(rows:(List (List ac)))(kinds:(List Int)):Option Bool:=
 if(decide ((12:Int)<(rows.length:Int)))then
 (some false)
 else
 (lV kinds rows)

def n8(b:cB):List ak→Option Bool
  |[]=>
    some true
  |e::tl=>
    (if(e.Op==(1:Int))then((if(!(decide ((b.Tables.length:Int)≤e.Table)))then((cR b.Tables e.Table).bind fun e1=>
    (rf e1 e.Kinds).bind fun r1=>
    some (!r1))else some true).bind fun t1=>
    some t1)else some false).bind fun t=>
    if t then
    (some false)
    else
    ((n8 b tl))

def uh(l:bE)(b:cB):Option Bool:=
 (pn l).bind fun r=>
 if(r.2 !=(0:Int))then
 (some false)
 else
 (n8 b l.Nodes)

def ra(l:bE):Option ((List Int)×Int):=
  (o7 l).bind fun r=>
  if(!r.2.2)then
  (some ([],(230:Int)))
  else
  ((cR r.1.kinds r.2.1).bind fun e=>
  (cx e).bind fun r1=>
  some (r1,(0:Int)))

def kM(r:cW)(n:ak):Option ((List (List ac))×Int):=
 (cR r.Base.Tables n.Table).bind fun e=>
 some (e,(0:Int))

def hX(s:List ac):Option (List ac):=
 some s

def hY(n:Int):Option (List ac):=
  if(decide ((0:Int)<(IntKind.i64.wrap (n-(IntKind.i64.wrap ((0:Int)-(0:Int)))))))then
  ((Wf (IntKind.i64.wrap (n-(IntKind.i64.wrap ((0:Int)-(0:Int)))))).bind fun _=>
  (nD (IntKind.i64.wrap (n-(IntKind.i64.wrap ((0:Int)-(0:Int))))) (⟨(0:Int),(0:Int),(0:Int),[]⟩:ac)).bind fun mk=>
  (dj mk 0 (0:Int)).bind fun y=>
  hX y)
  else
  (hX ([]:List ac))

def gu(n:Int):Option (List ac):=
 if(decide (n<(0:Int)))then
 (none)
 else
 (hY n)

def eO:List (List ac)→(List ac)→Option (List ac)
 |[],newslice=>
  some newslice
 |e1::tl1,newslice=>
  (app newslice e1).bind fun newslice1=>
  (eO tl1) newslice1

def eP(slices:(List (List ac))):List (List ac)→Int→Option (List ac)
 |[],size=>
  (gu size).bind fun r=>
  eO slices r
 |e::tl,size=>
  if(decide ((IntKind.i64.wrap (size+(e.length:Int)))<(0:Int)))then
  (none)
  else
  ((eP slices tl) (IntKind.i64.wrap (size+(e.length:Int))))

def dB(slices:(List (List ac))):Option (List ac):=
 eP slices slices (0:Int)

def fD{Sg:Type}(yld:(Int×(List ac))→Sg→Option (Bool×Sg))(nx:Nat→Sg→Option Sg)(i:Nat)(e2:(List ac)):List (List ac)→Sg→Option Sg
 |[],s2=>
  nx (i+1) s2
 |e4::tl1,s2=>
  (dB ([e2,e4])).bind fun r=>
  (yld ((i:Int),r) s2).bind fun r1=>
  if(!r1.1)then
  (some r1.2)
  else
  ((fD yld nx i e2 tl1) r1.2)

def dJ{Sg:Type}(b:(List (List ac)))(yld:(Int×(List ac))→Sg→Option (Bool×Sg)):List (List ac)→Nat→Sg→Option Sg
 |[],i,s1=>
  some s1
 |e2::tl,i,s1=>
  fD yld (dJ b yld tl) i e2 b s1

def lT{Sg:Type}(a1:(List (List ac)))(b:(List (List ac)))(yld:(Int×(List ac))→Sg→Option (Bool×Sg))(s:Sg):Option Sg:=
 dJ b yld a1 0 s

def vV(a1:(List (List ac)))(b:(List (List ac))):Option (It (Int×(List ac))):=
 some (fun _=>lT a1 b)

def lq(do1:(ac→ac→Option (ac×Int)))(a1:ac)(b:ac):Option (ac×Int):=
 (do1 b a1).bind fun r=>
 some (r.1,r.2)

def CK(do1:(ac→ac→Option (ac×Int))):Option (ac→ac→Option (ac×Int)):=
 some (lq do1)

def oV:Option ac:=
 some (⟨(0:Int),(0:Int),(0:Int),[]⟩:ac)

def ur(v:ac):Option ac:=
 some v

def oW(b:Bool):Option ac:=
 if b then
 (ur (ac.mk (⟨(1:Int),(0:Int),(0:Int),[]⟩:ac).Kind (1:Int) (⟨(1:Int),(0:Int),(0:Int),[]⟩:ac).U (⟨(1:Int),(0:Int),(0:Int),[]⟩:ac).S))
 else
 (ur (⟨(1:Int),(0:Int),(0:Int),[]⟩:ac))

def jb:List ac→Option Int
 |[]=>
  some (0:Int)
 |e::tl=>
  (kR e).bind fun r=>
  if(r !=(0:Int))then
  (some r)
  else
  ((jb tl))

def pe(l:(List ac)):Option Int:=
 jb l

def nm(p:Int):Option Bool:=
 some (p !=p)

def iD(p:Int)(y:Int):Option Int:=
  (nm p).bind fun r=>
  (nm y).bind fun r1=>
  if r then
  (if r1 then
  (some (0:Int))
  else
  (some (-1:Int)))
  else
  (if r1 then
  (some (1:Int))
  else
  (if(decide (p<y))then
  (some (-1:Int))
  else
  (if(decide (y<p))then
  (some (1:Int))
  else
  (some (0:Int)))))

def fW:List Int→Option Int
 |[]=>
  some (0:Int)
 |e::tl=>
  if(e !=(0:Int))then
  (some e)
  else
  ((fW tl))

def mK(vals:(List Int)):Option Int:=
 fW vals

def kN(p:Int):Option Bool:=
 some (p !=p)

def gw(p:Int)(y:Int):Option Int:=
  (kN p).bind fun r=>
  (kN y).bind fun r1=>
  if r then
  (if r1 then
  (some (0:Int))
  else
  (some (-1:Int)))
  else
  (if r1 then
  (some (1:Int))
  else
  (if(decide (p<y))then
  (some (-1:Int))
  else
  (if(decide (y<p))then
  (some (1:Int))
  else
  (some (0:Int)))))

def iR(a1:wF)(b:wF):Option Int:=
 some (VC a1 b)

def oN(a1:wF)(b:wF):Option Int:=
 (iR a1 b).bind fun r=>
 some r

def lb(a1:ac)(b:ac):Option Int:=
  (ma a1).bind fun r=>
  (if(!(!r))then((ma b).bind fun r1=>
  some (!r1))else some true).bind fun t=>
  if t then
  (some (0:Int))
  else
  ((iD a1.Kind b.Kind).bind fun r2=>
  (gw a1.N b.N).bind fun r3=>
  (oN a1.S b.S).bind fun r4=>
  (mK ([r2,r3,r4])).bind fun r5=>
  some r5)

def qf(a1:ac)(b:ac)(is1:(Int→Option Bool)):Option (ac×Int):=
  (pe ([a1,b])).bind fun r=>
  if(r !=(0:Int))then
  (some ((⟨(0:Int),(0:Int),(0:Int),[]⟩:ac),r))
  else
  (if(((a1.Kind==(4:Int))||(b.Kind==(4:Int)))||((!((a1.Kind==(0:Int))||(b.Kind==(0:Int))))&&(a1.Kind !=b.Kind)))then
  (some ((⟨(0:Int),(0:Int),(0:Int),[]⟩:ac),(2:Int)))
  else
  (if((a1.Kind==(0:Int))||(b.Kind==(0:Int)))then
  ((oV).bind fun r1=>
  some (r1,(0:Int)))
  else
  ((lb a1 b).bind fun r2=>
  (is1 r2).bind fun r3=>
  (oW r3).bind fun r4=>
  some (r4,(0:Int)))))

def An(c:Int):Option Bool:=
 some (decide (c<(0:Int)))

def nF(a1:ac)(b:ac):Option (ac×Int):=
 (qf a1 b An).bind fun r=>
 some (r.1,r.2)

def mG(do1:(ac→Option (ac×Int)))(a1:ac)(x:ac):Option (ac×Int):=
 (do1 a1).bind fun r=>
 some (r.1,r.2)

def zN(do1:(ac→Option (ac×Int))):Option (ac→ac→Option (ac×Int)):=
 some (mG do1)

def oe(n:Int):Option ac:=
 some (⟨(2:Int),n,(0:Int),[]⟩:ac)

def jQ(kind:Int):List ac→Int→Option Int
  |[],e=>
    some e
  |e1::tl,e=>
    (kR e1).bind fun r=>
    if(r !=(0:Int))then
    (some (120:Int))
    else
    (if((e1.Kind !=(0:Int))&&(e1.Kind !=kind))then
    ((jQ kind tl) (2:Int))
    else
    ((jQ kind tl) e))

def pq(kind:Int)(l:(List ac)):Option Int:=
 jQ kind l (0:Int)

def rh(a1:ac)(b:ac)(to1:(Int→Int→Option (Int×Bool))):Option (ac×Int):=
  (pq (2:Int) ([a1,b])).bind fun r=>
  if(r !=(0:Int))then
  (some ((⟨(0:Int),(0:Int),(0:Int),[]⟩:ac),r))
  else
  (if((a1.Kind==(0:Int))||(b.Kind==(0:Int)))then
  ((oV).bind fun r1=>
  some (r1,(0:Int)))
  else
  ((to1 a1.N b.N).bind fun r2=>
  if(!r2.2)then
  (some ((⟨(0:Int),(0:Int),(0:Int),[]⟩:ac),(140:Int)))
  else
  ((oe r2.1).bind fun r3=>
  some (r3,(0:Int)))))

def pr(a1:Int)(b:Int):Option (Int×Bool):=
 some ((IntKind.i64.wrap (a1-b)),decide ((0:Int)≤(eZ .and .i64 (eZ .xor .i64 a1 b) (eZ .xor .i64 a1 (IntKind.i64.wrap (a1-b))))))

def vj(a1:ac)(b:ac):Option (ac×Int):=
 (rh a1 b pr).bind fun r=>
 some (r.1,r.2)

def yp(a1:ac):Option (ac×Int):=
 (oe (0:Int)).bind fun r=>
 (vj r a1).bind fun r1=>
 some (r1.1,r1.2)

def wW(v:ac):Option Int:=
 if(v.Kind==(0:Int))then
 (some (1:Int))
 else
 (some (IntKind.i64.wrap ((2:Int)*v.N)))

def lC(to1:((List Int)→Option Int)):List ac→(List Int)→ac→Option (ac×Int)
  |[],n,x=>
    (to1 n).bind fun r1=>
    (cR gv2 r1).bind fun e1=>
    some (e1,(0:Int))
  |e::tl,n,x=>
    if(decide ((1:Int)<e.Kind))then
    (some ((⟨(0:Int),(0:Int),(0:Int),[]⟩:ac),(2:Int)))
    else
    ((wW e).bind fun r2=>
    (app n ([r2])).bind fun n1=>
    (lC to1 tl) n1 x)

def nE(to1:((List Int)→Option Int))(l:(List ac)):Option (ac×Int):=
 (pe l).bind fun r=>
 if(r !=(0:Int))then
 (some ((⟨(0:Int),(0:Int),(0:Int),[]⟩:ac),r))
 else
 (lC to1 l ([]:List Int) (⟨(0:Int),(0:Int),(0:Int),[]⟩:ac))

def Cv(l:(List Int)):Option Int:=
 (cR l (0:Int)).bind fun e=>
 some (IntKind.i64.wrap ((2:Int)-e))

def qg(a1:ac):Option (ac×Int):=
 (nE Cv ([a1])).bind fun r=>
 some (r.1,r.2)

def nV(is1:Bool)(a1:ac)(x:ac):Option (ac×Int):=
 (oW ((a1.Kind==(0:Int))==is1)).bind fun r=>
 some (r,(0:Int))

def BX(is1:Bool):Option (ac→ac→Option (ac×Int)):=
 some (nV is1)

def ri(a1:Int)(b:Int):Option (Int×Bool):=
 some ((IntKind.i64.wrap (a1+b)),decide ((0:Int)≤(eZ .and .i64 (eZ .xor .i64 a1 (IntKind.i64.wrap (a1+b))) (eZ .xor .i64 b (IntKind.i64.wrap (a1+b))))))

def Ca(a1:ac)(b:ac):Option (ac×Int):=
 (rh a1 b ri).bind fun r=>
 some (r.1,r.2)

def mU(p:Int)(y:Int):Option (Int×Int):=
 some ((IntKind.u64.wrap ((IntKind.u64.wrap ((IntKind.u64.wrap (((p).fdiv (2^(min (Int.toNat (32:Int)) IntKind.u64.bits)))*((y).fdiv (2^(min (Int.toNat (32:Int)) IntKind.u64.bits)))))+(((IntKind.u64.wrap ((IntKind.u64.wrap (((p).fdiv (2^(min (Int.toNat (32:Int)) IntKind.u64.bits)))*(eZ .and .u64 y (4294967295:Int))))+(((IntKind.u64.wrap ((eZ .and .u64 p (4294967295:Int))*(eZ .and .u64 y (4294967295:Int))))).fdiv (2^(min (Int.toNat (32:Int)) IntKind.u64.bits)))))).fdiv (2^(min (Int.toNat (32:Int)) IntKind.u64.bits)))))+(((IntKind.u64.wrap ((eZ .and .u64 (IntKind.u64.wrap ((IntKind.u64.wrap (((p).fdiv (2^(min (Int.toNat (32:Int)) IntKind.u64.bits)))*(eZ .and .u64 y (4294967295:Int))))+(((IntKind.u64.wrap ((eZ .and .u64 p (4294967295:Int))*(eZ .and .u64 y (4294967295:Int))))).fdiv (2^(min (Int.toNat (32:Int)) IntKind.u64.bits))))) (4294967295:Int))+(IntKind.u64.wrap ((eZ .and .u64 p (4294967295:Int))*((y).fdiv (2^(min (Int.toNat (32:Int)) IntKind.u64.bits)))))))).fdiv (2^(min (Int.toNat (32:Int)) IntKind.u64.bits))))),(IntKind.u64.wrap (p*y)))

def pb(n:Int):Option Int:=
 if(decide (n<(0:Int)))then
 (some (IntKind.u64.wrap (0-(IntKind.u64.wrap n))))
 else
 (some (IntKind.u64.wrap n))

def mN(u:Int)(below:Bool):Option (Int×Bool):=
 if below then
 (some ((IntKind.i64.wrap (IntKind.u64.wrap (0-u))),decide (u≤(9223372036854775808:Int))))
 else
 (some ((IntKind.i64.wrap u),decide (u≤(9223372036854775807:Int))))

def me(a1:Int)(b:Int):Option (Int×Bool):=
 (pb a1).bind fun r=>
 (pb b).bind fun r1=>
 (mU r r1).bind fun r2=>
 (mN r2.2 ((decide (a1<(0:Int))) !=(decide (b<(0:Int))))).bind fun r3=>
 some (r3.1,(r3.2&&(r2.1==(0:Int))))

def B8(a1:ac)(b:ac):Option (ac×Int):=
 (rh a1 b me).bind fun r=>
 some (r.1,r.2)

def mf(a1:Int)(b:Int):Option (Int×Bool):=
  if(b==(0:Int))then
  (some ((0:Int),false))
  else
  ((pb a1).bind fun r=>
  (pb b).bind fun r1=>
  (nz r1).bind fun _=>
  (mN (IntKind.u64.wrap ((r).tdiv r1)) ((decide (a1<(0:Int))) !=(decide (b<(0:Int))))).bind fun r2=>
  some (r2.1,r2.2))

def B9(a1:ac)(b:ac):Option (ac×Int):=
 (rh a1 b mf).bind fun r=>
 some (r.1,r.2)

def yU(c:Int):Option Bool:=
 some (c==(0:Int))

def qV(a1:ac)(b:ac):Option (ac×Int):=
 (qf a1 b yU).bind fun r=>
 some (r.1,r.2)

def tf(do1:(ac→ac→Option (ac×Int)))(a1:ac)(b:ac):Option (ac×Int):=
  (do1 a1 b).bind fun r=>
  if(r.2 !=(0:Int))then
  (some (r.1,r.2))
  else
  ((qg r.1).bind fun r1=>
  some (r1.1,r1.2))

def A3(do1:(ac→ac→Option (ac×Int))):Option (ac→ac→Option (ac×Int)):=
 some (tf do1)

def Cw(l:(List Int)):Option Int:=
 (cR l (0:Int)).bind fun e=>
 (cR l (1:Int)).bind fun e1=>
 some (min e e1)

def sf(a1:ac)(b:ac):Option (ac×Int):=
 (nE Cw ([a1,b])).bind fun r=>
 some (r.1,r.2)

def DQ(l:(List Int)):Option Int:=
 (cR l (0:Int)).bind fun e=>
 (cR l (1:Int)).bind fun e1=>
 some (max e e1)

def uN(a1:ac)(b:ac):Option (ac×Int):=
 (nE DQ ([a1,b])).bind fun r=>
 some (r.1,r.2)

def yk:Option (List (Int×(ac→ac→Option (ac×Int)))):=
 (CK nF).bind fun r=>
 (zN yp).bind fun r1=>
 (zN qg).bind fun r2=>
 (BX true).bind fun r3=>
 (BX false).bind fun r4=>
 (A3 qV).bind fun r5=>
 (A3 r).bind fun r6=>
 (A3 nF).bind fun r7=>
 some (cY (cY (cY (cY (cY (cY (cY (cY (cY (cY (cY (cY (cY (cY (cY (cY ([]:List (Int×(ac→ac→Option (ac×Int)))) (4:Int) r1) (5:Int) r2) (6:Int) r3) (7:Int) r4) (12:Int) Ca) (13:Int) vj) (14:Int) B8) (15:Int) B9) (16:Int) qV) (17:Int) r5) (18:Int) nF) (20:Int) r) (19:Int) r6) (21:Int) r7) (22:Int) sf) (23:Int) uN)

def fy(s:(List ac)):Option (List ac):=
 (app ([]:List ac) s).bind fun x=>
 some x

def ku(stack:(List ac))(k:Int):Option ((List ac)×(List ac)):=
 (dj stack (IntKind.i64.wrap ((stack.length:Int)-k)) (stack.length:Int)).bind fun y=>
 (fy y).bind fun r=>
 (dj stack 0 (IntKind.i64.wrap ((stack.length:Int)-k))).bind fun y1=>
 some (r,y1)

def gj(bad:Int)(stack:List ac):Option (ac×Int):=
  if(bad !=(0:Int))then
  (some ((⟨(0:Int),(0:Int),(0:Int),[]⟩:ac),bad))
  else
  ((cR stack (0:Int)).bind fun e1=>
  some (e1,(0:Int)))

def dF(do1:(bm→(List ac)→Option (ac×Int))):List bm→Int→(List ac)→Option (ac×Int)
  |[],bad1,stack1=>
    gj bad1 stack1
  |e2::tl,bad1,stack1=>
    (o9 e2.Tag).bind fun r=>
    (ku stack1 r).bind fun r1=>
    (do1 e2 r1.1).bind fun r2=>
    if(r2.2 !=(0:Int))then
    (gj r2.2 r1.2)
    else
    ((app r1.2 ([r2.1])).bind fun l2=>
    (dF do1 tl) bad1 l2)

def ir(e:bK)(do1:(bm→(List ac)→Option (ac×Int))):Option (ac×Int):=
 dF do1 e.Nodes (0:Int) ([]:List ac)

def pY(r1:ac×Int)(no:Int):Option (ac×Int):=
 some (r1.1,no)

def iC(r:(List ac))(do1:(List (Int×(ac→ac→Option (ac×Int)))))(n:bm)(l:(List ac)):Option (ac×Int):=
  if(n.Tag==(1:Int))then
  (some (n.Value,(0:Int)))
  else
  (if(n.Tag==(2:Int))then
  ((cR r n.Col).bind fun e=>
  some (e,(0:Int)))
  else
  ((cR l (0:Int)).bind fun e1=>
  (cR l (IntKind.i64.wrap ((l.length:Int)-(1:Int)))).bind fun e2=>
  (((kD do1 n.Tag).getD (fun _ _=>none)) e1 e2).bind fun r1=>
  if((r1.2 !=(0:Int))&&(r1.2 !=(140:Int)))then
  (pY r1 (201:Int))
  else
  (pY r1 r1.2)))

def oo(e:bK)(r:(List ac)):List Int→ac→Option (ac×Int)
  |[],x=>
    (yk).bind fun r3=>
    (ir e (iC r r3)).bind fun r4=>
    some (r4.1,r4.2)
  |e1::tl,x=>
    (if(!(decide ((r.length:Int)≤e1)))then((cR r e1).bind fun e2=>
    (ma e2).bind fun r5=>
    some (!r5))else some true).bind fun t=>
    if t then
    (some ((⟨(0:Int),(0:Int),(0:Int),[]⟩:ac),(2:Int)))
    else
    ((oo e r tl) x)

def ss(e:bK)(r:(List ac)):Option (ac×Int):=
  (qA e).bind fun r1=>
  if(r1 !=(0:Int))then
  (some ((⟨(0:Int),(0:Int),(0:Int),[]⟩:ac),r1))
  else
  ((su e).bind fun r2=>
  oo e r r2 (⟨(0:Int),(0:Int),(0:Int),[]⟩:ac))

def vA(a1:ac):Option Bool:=
 (oW true).bind fun r=>
 some (decide (a1=r))

def pZ(e:bK)(r:(List ac)):Option (Bool×Int):=
 (ss e r).bind fun r1=>
 (vA r1.1).bind fun r2=>
 some (r2,r1.2)

def gL(n:ak)(x:Int×(List ac))(xs:List (List ac))(xs1:List Bool)(x1:Int)(x2:(List (List ac))):Option (Option Nat×(List (List ac)×List Bool×Int×(List (List ac)))):=
  (pZ n.Cond x.2).bind fun r3=>
  if(r3.2 !=(0:Int))then
  (some (some 0,(xs,xs1,r3.2,[])))
  else
  (if r3.1 then
  ((cR xs1 x.1).bind fun e2=>
  (some (xs1.set x.1.toNat true)).bind fun st=>
  (app xs ([x.2])).bind fun l2=>
  some (none,(l2,st,x1,x2)))
  else
  (some (none,(xs,xs1,x1,x2))))

def gK(r:cW)(n:ak)(r1:(Option Nat×(List (List ac)×List Bool×Int×(List (List ac))))×Unit):List (List ac)→Nat→(List (List ac))→Option ((List (List ac))×Int)
  |[],i2,out=>
    some (out,(0:Int))
  |e3::tl,i2,out=>
    (if n.Left then((cR r1.1.2.2.1 (i2:Int)).bind fun e4=>
    some (!e4))else some false).bind fun t=>
    if t then
    ((cR r.width n.B).bind fun e5=>
    (nD e5 (⟨(0:Int),(0:Int),(0:Int),[]⟩:ac)).bind fun mk1=>
    (dB ([e3,mk1])).bind fun r4=>
    (app out ([r4])).bind fun l7=>
    (gK r n r1 tl) (i2+1) l7)
    else
    ((gK r n r1 tl) (i2+1) out)

def jA(r:cW)(n:ak):Option ((List (List ac))×Int):=
  (cR r.rows n.A).bind fun e=>
  (cR r.rows n.B).bind fun e1=>
  if(decide ((40000:Int)<(IntKind.i64.wrap ((e.length:Int)*(e1.length:Int)))))then
  (some ([],(3:Int)))
  else
  ((nD (e.length:Int) false).bind fun mk=>
  (vV e e1).bind fun it=>
  ((itU it) (Option Nat×(List (List ac)×List Bool×Int×(List (List ac)))) (wq (fun x s=>gL n x s.1 s.2.1 s.2.2.1 s.2.2.2)) (none,(([]:List (List ac)),mk,(0:Int),[]))).bind fun r1=>
  if r1.1.1.isNone then
  (gK r n r1 e 0 r1.1.2.1)
  else
  (some (r1.1.2.2.2.2,r1.1.2.2.2.1)))

def fU(n:ak):List (List ac)→(List (List ac))→Option ((List (List ac))×Int)
  |[],out=>
    some (out,(0:Int))
  |e1::tl,out=>
    (pZ n.Cond e1).bind fun r1=>
    if(r1.2 !=(0:Int))then
    (some ([],r1.2))
    else
    (if r1.1 then
    ((app out ([e1])).bind fun out1=>
    (fU n tl) out1)
    else
    ((fU n tl) out))

def jt(r:cW)(n:ak):Option ((List (List ac))×Int):=
 (cR r.rows n.A).bind fun e=>
 fU n e ([]:List (List ac))

def jn(a1:gM):List (List ac)→(List ac)→Int→Option ((List ac)×Int)
  |[],out,fault=>
    some (out,fault)
  |e::tl,out,fault=>
    (ss a1.Arg e).bind fun r=>
    if(r.2==(140:Int))then
    ((jn a1 tl) out r.2)
    else
    (if(r.2 !=(0:Int))then
    (some ([],(2:Int)))
    else
    (if(r.1.Kind !=(0:Int))then
    ((app out ([r.1])).bind fun out1=>
    (jn a1 tl) out1 fault)
    else
    ((jn a1 tl) out fault)))

def xB(a1:gM)(rows:(List (List ac))):Option ((List ac)×Int):=
 jn a1 rows ([]:List ac) (0:Int)

def mJ(v:ac):Option Bool:=
 some (v.Kind !=(2:Int))

def cZ(f:(ac→Option Bool)):List ac→Nat→Option Int
 |[],i=>
  some (-1:Int)
 |e::tl,i=>
  (f e).bind fun r=>
  if r then
  (some (i:Int))
  else
  ((cZ f tl) (i+1))

def gk(s:(List ac))(f:(ac→Option Bool)):Option Int:=
 cZ f s 0

def dW(s:(List ac))(f:(ac→Option Bool)):Option Bool:=
 (gk s f).bind fun r=>
 some (decide ((0:Int)≤r))

def qF(v:ac):Option ac:=
 some (⟨(4:Int),((v.N).fdiv (2^(min (Int.toNat (63:Int)) IntKind.i64.bits))),(IntKind.u64.wrap v.N),[]⟩:ac)

def vZ(s:ac)(t:ac):Option (ac×Int):=
 (Lb s.U t.U (0:Int)).bind fun r=>
 (Lb (IntKind.u64.wrap s.N) (IntKind.u64.wrap t.N) r.2).bind fun r1=>
 if(decide ((eZ .and .i64 (eZ .xor .i64 s.N (IntKind.i64.wrap r1.1)) (eZ .xor .i64 t.N (IntKind.i64.wrap r1.1)))<(0:Int)))then
 (some ((⟨(0:Int),(0:Int),(0:Int),[]⟩:ac),(140:Int)))
 else
 (some ((⟨(4:Int),(IntKind.i64.wrap r1.1),r.1,[]⟩:ac),(0:Int)))

def sv(s:ac)(v:ac):Option (ac×Int):=
  (pq (4:Int) ([s])).bind fun r=>
  (pq (2:Int) ([v])).bind fun r1=>
  if((r==(120:Int))||(r1==(120:Int)))then
  (some ((⟨(0:Int),(0:Int),(0:Int),[]⟩:ac),(120:Int)))
  else
  (if((r !=(0:Int))||(r1 !=(0:Int)))then
  (some ((⟨(0:Int),(0:Int),(0:Int),[]⟩:ac),(2:Int)))
  else
  (if(v.Kind==(0:Int))then
  (some (s,(0:Int)))
  else
  (if(s.Kind==(0:Int))then
  ((qF v).bind fun r2=>
  some (r2,(0:Int)))
  else
  ((qF v).bind fun r3=>
  (vZ s r3).bind fun r4=>
  some (r4.1,r4.2)))))

def yq(s:ac):Option (ac×Int):=
  (pq (4:Int) ([s])).bind fun r=>
  if(r !=(0:Int))then
  (some ((⟨(0:Int),(0:Int),(0:Int),[]⟩:ac),r))
  else
  (if(s.Kind==(0:Int))then
  (some (s,(0:Int)))
  else
  ((oe (IntKind.i64.wrap s.U)).bind fun r1=>
  (qF r1).bind fun r2=>
  if(decide (r2=s))then
  (some (r1,(0:Int)))
  else
  (some ((⟨(0:Int),(0:Int),(0:Int),[]⟩:ac),(140:Int)))))

def mO:List ac→ac→ac→Option (ac×Int)
 |[],x,s=>
  (yq s).bind fun r1=>
  some (r1.1,r1.2)
 |e::tl,x,s=>
  (sv s e).bind fun r2=>
  if(r2.2 !=(0:Int))then
  (some (r2.1,r2.2))
  else
  ((mO tl) x r2.1)

def yr(l:(List ac)):Option (ac×Int):=
  if(decide ((1048576:Int)<(l.length:Int)))then
  (some ((⟨(0:Int),(0:Int),(0:Int),[]⟩:ac),(3:Int)))
  else
  ((oV).bind fun r=>
  mO l (⟨(0:Int),(0:Int),(0:Int),[]⟩:ac) r)

def cG(cmp:(ac→ac→Option Int)):List ac→ac→Option ac
 |[],m=>
  some m
 |e1::tl,m=>
  (cmp e1 m).bind fun r=>
  if(decide (r<(0:Int)))then
  ((cG cmp tl) e1)
  else
  ((cG cmp tl) m)

def f9(p:(List ac))(cmp:(ac→ac→Option Int)):Option ac:=
 (cR p (0:Int)).bind fun e=>
 cG cmp (p.drop (1)) e

def eM(p:(List ac))(cmp:(ac→ac→Option Int)):Option ac:=
 if(decide ((p.length:Int)<(1:Int)))then
 (none)
 else
 (f9 p cmp)

def qW(v:ac):Option Bool:=
 (kR v).bind fun r=>
 some (r !=(0:Int))

def cI(f:(ac→Option Bool)):List ac→Nat→Option Int
 |[],i=>
  some (-1:Int)
 |e::tl,i=>
  (f e).bind fun r=>
  if r then
  (some (i:Int))
  else
  ((cI f tl) (i+1))

def j9(s:(List ac))(f:(ac→Option Bool)):Option Int:=
 cI f s 0

def gb(s:(List ac))(f:(ac→Option Bool)):Option Bool:=
 (j9 s f).bind fun r=>
 some (decide ((0:Int)≤r))

def sj(r:(List ac)):Option Bool:=
  (if(decide ((r.length:Int)≤(16:Int)))then((gb r qW).bind fun r1=>
  some (!r1))else some false).bind fun t=>
  some t

def bF(s1:(List ac))(s2:(List ac))(cmp:(ac→ac→Option Int)):List ac→Nat→Option Int
  |[],i=>
    if(decide ((s1.length:Int)<(s2.length:Int)))then
    (some (-1:Int))
    else
    (some (0:Int))
  |e::tl,i=>
    if(decide ((s2.length:Int)≤(i:Int)))then
    (some (1:Int))
    else
    ((cR s2 (i:Int)).bind fun e1=>
    (cmp e e1).bind fun r=>
    if(r !=(0:Int))then
    (some r)
    else
    ((bF s1 s2 cmp tl) (i+1)))

def cr(s1:(List ac))(s2:(List ac))(cmp:(ac→ac→Option Int)):Option Int:=
 bF s1 s2 cmp s1 0

def ot(p:Int):Option Bool:=
 some (p !=p)

def mL(p:Int)(y:Int):Option Int:=
  (ot p).bind fun r=>
  (ot y).bind fun r1=>
  if r then
  (if r1 then
  (some (0:Int))
  else
  (some (-1:Int)))
  else
  (if r1 then
  (some (1:Int))
  else
  (if(decide (p<y))then
  (some (-1:Int))
  else
  (if(decide (y<p))then
  (some (1:Int))
  else
  (some (0:Int)))))

def ou(p:wF):Option Bool:=
 some (!(p==p))

def mM(p:wF)(y:wF):Option Int:=
  (ou p).bind fun r=>
  (ou y).bind fun r1=>
  if r then
  (if r1 then
  (some (0:Int))
  else
  (some (-1:Int)))
  else
  (if r1 then
  (some (1:Int))
  else
  (if(Op.bytesLess p y)then
  (some (-1:Int))
  else
  (if(!(Op.bytesLess p y||p==y))then
  (some (1:Int))
  else
  (some (0:Int)))))

def o3(a1:ac)(b:ac):Option Int:=
 (iD a1.Kind b.Kind).bind fun r=>
 (gw a1.N b.N).bind fun r1=>
 (mL a1.U b.U).bind fun r2=>
 (mM a1.S b.S).bind fun r3=>
 (mK ([r,r1,r2,r3])).bind fun r4=>
 some r4

def pg(a1:(List ac))(b:(List ac)):Option Int:=
 (cr a1 b o3).bind fun r=>
 some r

def ph(a1:(List ac))(b:(List ac)):Option Int:=
  (sj a1).bind fun r=>
  (if(!(!r))then((sj b).bind fun r1=>
  some (!r1))else some true).bind fun t=>
  if t then
  (some (0:Int))
  else
  ((pg a1 b).bind fun r2=>
  some r2)

def hT(a1:ac)(b:ac):Option Int:=
 (ph ([a1]) ([b])).bind fun r=>
 some r

def cH(cmp:(ac→ac→Option Int)):List ac→ac→Option ac
 |[],m=>
  some m
 |e1::tl,m=>
  (cmp e1 m).bind fun r=>
  if(decide ((0:Int)<r))then
  ((cH cmp tl) e1)
  else
  ((cH cmp tl) m)

def ga(p:(List ac))(cmp:(ac→ac→Option Int)):Option ac:=
 (cR p (0:Int)).bind fun e=>
 cH cmp (p.drop (1)) e

def eN(p:(List ac))(cmp:(ac→ac→Option Int)):Option ac:=
 if(decide ((p.length:Int)<(1:Int)))then
 (none)
 else
 (ga p cmp)

def lW(a1:gM)(rows:(List (List ac))):Option (ac×Int):=
  if(a1.Tag==(1:Int))then
  ((oe (rows.length:Int)).bind fun r=>
  some (r,(0:Int)))
  else
  ((xB a1 rows).bind fun r1=>
  if(r1.2==(2:Int))then
  (some ((⟨(0:Int),(0:Int),(0:Int),[]⟩:ac),r1.2))
  else
  ((if(a1.Tag==(3:Int))then((dW r1.1 mJ).bind fun r2=>
  some r2)else some false).bind fun t=>
  if t then
  (some ((⟨(0:Int),(0:Int),(0:Int),[]⟩:ac),(2:Int)))
  else
  (if(r1.2 !=(0:Int))then
  (some ((⟨(0:Int),(0:Int),(0:Int),[]⟩:ac),r1.2))
  else
  (if(a1.Tag==(2:Int))then
  ((oe (r1.1.length:Int)).bind fun r3=>
  some (r3,(0:Int)))
  else
  (if(a1.Tag==(3:Int))then
  ((yr r1.1).bind fun r4=>
  some (r4.1,r4.2))
  else
  (if((r1.1.length:Int)==(0:Int))then
  (some ((⟨(0:Int),(0:Int),(0:Int),[]⟩:ac),(0:Int)))
  else
  (if(a1.Tag==(4:Int))then
  ((eM r1.1 hT).bind fun r5=>
  some (r5,(0:Int)))
  else
  ((eN r1.1 hT).bind fun r6=>
  some (r6,(0:Int))))))))))

def pK(nx:Int→Option Int)(e:(List (List ac)))(n:Int):List (List ac)→Option Int
 |[]=>
  nx (max n (e.length:Int))
 |e1::tl1=>
  (sj e1).bind fun r=>
  if(!r)then
  (some (150:Int))
  else
  ((pK nx e n tl1))

def kW:List (List (List ac))→Int→Option Int
 |[],n=>
  if(decide ((8000:Int)<n))then
  (some (3:Int))
  else
  (some (0:Int))
 |e::tl,n=>
  pK (kW tl) e n e

def uU(l:(List (List (List ac)))):Option Int:=
 kW l (0:Int)

def tQ(c:Int):Option Bool:=
 some (decide (c<(0:Int)))

def xV(r:(List ac))(c:Int):Option Bool:=
 some ((decide (c<(0:Int)))||(decide ((r.length:Int)≤c)))

def Db(r:(List ac))(columns:(List Int)):Option Bool:=
  (if(decide ((columns.length:Int)≤(16:Int)))then((cz columns (xV r)).bind fun r1=>
  some (!r1))else some false).bind fun t=>
  some t

def pL(columns:(List Int)):List (List ac)→Option Int
 |[]=>
  some (0:Int)
 |e::tl=>
  (Db e columns).bind fun r2=>
  if(!r2)then
  (some (2:Int))
  else
  ((pL columns tl))

def xW(l:(List (List ac)))(columns:(List Int)):Option Int:=
  (uU ([l])).bind fun r=>
  if(r !=(0:Int))then
  (some r)
  else
  ((if(!(decide ((16:Int)<(columns.length:Int))))then((cz columns tQ).bind fun r1=>
  some r1)else some true).bind fun t=>
  if t then
  (some (2:Int))
  else
  (pL columns l))

def cy(s:(List ac)):Option (List ac):=
 (app ([]:List ac) s).bind fun x=>
 some x

def nd:List (List ac)→(List (List ac))→Option (List (List ac))
 |[],out=>
  some out
 |e::tl,out=>
  (cy e).bind fun r=>
  (app out ([r])).bind fun out1=>
  (nd tl) out1

def sO(l:(List (List ac))):Option (List (List ac)):=
 nd l ([]:List (List ac))

def mb(r:(List ac)):List Int→(List ac)→Option (List ac)
 |[],out=>
  some out
 |e::tl,out=>
  (cR r e).bind fun e1=>
  (app out ([e1])).bind fun out1=>
  (mb r tl) out1

def nJ(r:(List ac))(columns:(List Int)):Option (List ac):=
 mb r columns ([]:List ac)

def mt(columns:(List Int))(a1:(List ac))(b:(List ac)):Option Int:=
 (nJ a1 columns).bind fun r=>
 (nJ b columns).bind fun r1=>
 (pg r r1).bind fun r2=>
 (pg a1 b).bind fun r3=>
 (mK ([r2,r3])).bind fun r4=>
 some r4

def dV(s2:(List ac)):List ac→Nat→Option Bool
 |[],i=>
  some true
 |e::tl,i=>
  (cR s2 (i:Int)).bind fun e1=>
  if(!decide (e=e1))then
  (some false)
  else
  ((dV s2 tl) (i+1))

def iN(s1:(List ac))(s2:(List ac)):Option Bool:=
 if((s1.length:Int) !=(s2.length:Int))then
 (some false)
 else
 (dV s2 s1 0)

def nc(a1:(List ac))(b:(List ac)):Option Bool:=
 (iN a1 b).bind fun r=>
 some r

def gc(columns:(List Int))(a1:(List ac))(b:(List ac)):Option Bool:=
 (nJ a1 columns).bind fun r=>
 (nJ b columns).bind fun r1=>
 (nc r r1).bind fun r2=>
 some r2

def na{Sg:Type}(alike:((List ac)→(List ac)→Option Bool))(yld:(List (List ac))→Sg→Option (Bool×Sg))(nx:Sg→(List (List ac))→Option Sg)(s1:Sg)(x:(List (List ac))):Nat→Int→Option Sg
  |0,_=>none
  |n2+1,n1=>
    (if(decide (n1<(x.length:Int)))then((cR x (0:Int)).bind fun e2=>
    (cR x n1).bind fun e3=>
    (alike e2 e3).bind fun r=>
    some r)else some false).bind fun t=>
    if t then
    ((na alike yld nx s1 x n2) (IntKind.i64.wrap (n1+(1:Int))))
    else
    ((dj x 0 n1).bind fun y=>
    (yld (y) s1).bind fun r1=>
    if(!r1.1)then
    (some r1.2)
    else
    ((dj x n1 (x.length:Int)).bind fun y1=>
    nx r1.2 y1))

def jU{Sg:Type}(alike:((List ac)→(List ac)→Option Bool))(yld:(List (List ac))→Sg→Option (Bool×Sg)):Nat→Sg→(List (List ac))→Option Sg
 |0,_,_=>none
 |n+1,s1,x=>
  if(decide ((0:Int)<(x.length:Int)))then
  (na alike yld (jU alike yld n) s1 x im (1:Int))
  else
  (some s1)

def vF{Sg:Type}(l:(List (List ac)))(alike:((List ac)→(List ac)→Option Bool))(yld:(List (List ac))→Sg→Option (Bool×Sg))(s:Sg):Option Sg:=
 jU alike yld im s l

def Ei(l:(List (List ac)))(alike:((List ac)→(List ac)→Option Bool)):Option (It (List (List ac))):=
 some (fun _=>vF l alike)

def eV(s:(List (List ac))):Option (List (List ac)):=
 (app ([]:List (List ac)) s).bind fun x=>
 some x

def jV(columns:(List Int))(x:(List (List ac)))(xs:List g9):Option (List g9):=
 (cR x (0:Int)).bind fun e=>
 (nJ e columns).bind fun r2=>
 (eV x).bind fun r3=>
 (app xs ([(⟨r2,r3⟩:g9)])).bind fun l3=>
 some l3

def sP(l:(List (List ac)))(columns:(List Int)):Option ((List g9)×Int):=
  (xW l columns).bind fun r=>
  if(r !=(0:Int))then
  (some ([],r))
  else
  ((sO l).bind fun r1=>
  (yX (fun(x:(List ac)×(List ac))=>(mt columns) x.1 x.2) r1).bind fun rC=>
  (Ei rC (gc columns)).bind fun it=>
  (it (List g9) (CS (fun x s=>jV columns x s)) ([]:List g9)).bind fun xs1=>
  some (xs1,(0:Int)))

def iu(nx:(List (List ac))→Option ((List (List ac))×Int))(e1:g9)(out:List (List ac)):List gM→(List ac)→Option ((List (List ac))×Int)
  |[],x=>
    (app out ([x])).bind fun out1=>
    nx out1
  |e2::tl1,x=>
    (lW e2 e1.Rows).bind fun r3=>
    if(r3.2 !=(0:Int))then
    (some ([],r3.2))
    else
    ((app x ([r3.1])).bind fun x1=>
    (iu nx e1 out tl1) x1)

def fg(n:ak):List g9→(List (List ac))→Option ((List (List ac))×Int)
 |[],out=>
  some (out,(0:Int))
 |e1::tl,out=>
  (cy e1.Key).bind fun r2=>
  iu (fg n tl) e1 out n.Aggs r2

def lz(n:ak)(groups:(List g9)):Option ((List (List ac))×Int):=
 fg n groups ([]:List (List ac))

def iT(r:cW)(n:ak):Option ((List (List ac))×Int):=
  (cR r.rows n.A).bind fun e=>
  (sP e n.Keys).bind fun r1=>
  if(r1.2 !=(0:Int))then
  (some ([],r1.2))
  else
  (if(((n.Keys.length:Int)==(0:Int))&&((r1.1.length:Int)==(0:Int)))then
  (lz n ([(⟨[],[]⟩:g9)]))
  else
  (lz n r1.1))

def gy(nx:(List (List ac))→Option ((List (List ac))×Int))(e1:(List ac))(out:List (List ac)):List bK→(List ac)→Option ((List (List ac))×Int)
  |[],y=>
    (app out ([y])).bind fun out1=>
    nx out1
  |e2::tl1,y=>
    (ss e2 e1).bind fun r1=>
    if(r1.2 !=(0:Int))then
    (some ([],r1.2))
    else
    ((app y ([r1.1])).bind fun y1=>
    (gy nx e1 out tl1) y1)

def fm(n:ak):List (List ac)→(List (List ac))→Option ((List (List ac))×Int)
 |[],out=>
  some (out,(0:Int))
 |e1::tl,out=>
  gy (fm n tl) e1 out n.Items ([]:List ac)

def iS(r:cW)(n:ak):Option ((List (List ac))×Int):=
 (cR r.rows n.A).bind fun e=>
 fm n e ([]:List (List ac))

def sN(l:(List (List ac))):Option (List (List ac)):=
 (sO l).bind fun r=>
 (yX (fun(x:(List ac)×(List ac))=>pg x.1 x.2) r).bind fun rC=>
 some rC

def cg(eq:((List ac)→(List ac)→Option Bool))(i:Nat)(y:List (List ac)):Nat→Nat→(List (List ac))→Int→Option (List (List ac))
  |0,i1,s1,k=>
    (dj s1 k (s1.length:Int)).bind fun y1=>
    (some (s1.take k.toNat++List.replicate y1.length ([]))).bind fun cl=>
    (dj cl 0 k).bind fun y2=>
    some y2
  |k2+1,i1,s1,k=>
    (xr s1 (i:Int) y.length (i1:Int)).bind fun e3=>
    (xr s1 (i:Int) y.length (IntKind.i64.wrap ((i1:Int)-(1:Int)))).bind fun e4=>
    (eq e3 e4).bind fun r1=>
    if(!r1)then
    ((xr s1 (i:Int) y.length (i1:Int)).bind fun e5=>
    (cR s1 k).bind fun e6=>
    (some (s1.set k.toNat e5)).bind fun st=>
    (cg eq i y k2) (i1+1) st (IntKind.i64.wrap (k+(1:Int))))
    else
    ((cg eq i y k2) (i1+1) s1 k)

def cJ(s:(List (List ac)))(eq:((List ac)→(List ac)→Option Bool)):List (List ac)→Nat→Option (List (List ac))
  |[],i=>
    some s
  |e::tl,i=>
    (cR s (IntKind.i64.wrap ((i:Int)-(1:Int)))).bind fun e1=>
    (eq e e1).bind fun r=>
    if r then
    ((dj s (i:Int) (s.length:Int)).bind fun y=>
    cg eq i y (y.length-1) 1 s (i:Int))
    else
    ((cJ s eq tl) (i+1))

def eQ(s:(List (List ac)))(eq:((List ac)→(List ac)→Option Bool)):Option (List (List ac)):=
 if(decide ((s.length:Int)<(2:Int)))then
 (some s)
 else
 (cJ s eq (s.drop (1)) 1)

def rP(l:(List (List ac))):Option ((List (List ac))×Int):=
  (uU ([l])).bind fun r=>
  if(r !=(0:Int))then
  (some ([],r))
  else
  ((sN l).bind fun r1=>
  (eQ r1 nc).bind fun r2=>
  some (r2,(0:Int)))

def iv(r:cW)(n:ak):Option ((List (List ac))×Int):=
 (cR r.rows n.A).bind fun e=>
 (rP e).bind fun r1=>
 some (r1.1,r1.2)

def iL(s:List (List ac)):Option (List (List ac)):=
 some s

def iM(n:Int):Option (List (List ac)):=
  if(decide ((0:Int)<(IntKind.i64.wrap (n-(IntKind.i64.wrap ((0:Int)-(0:Int)))))))then
  ((Wf (IntKind.i64.wrap (n-(IntKind.i64.wrap ((0:Int)-(0:Int)))))).bind fun _=>
  (nD (IntKind.i64.wrap (n-(IntKind.i64.wrap ((0:Int)-(0:Int))))) ([])).bind fun mk=>
  (dj mk 0 (0:Int)).bind fun y=>
  iL y)
  else
  (iL ([]:List (List ac)))

def gW(n:Int):Option (List (List ac)):=
 if(decide (n<(0:Int)))then
 (none)
 else
 (iM n)

def ft:List (List (List ac))→(List (List ac))→Option (List (List ac))
 |[],newslice=>
  some newslice
 |e1::tl1,newslice=>
  (app newslice e1).bind fun newslice1=>
  (ft tl1) newslice1

def fx(slices:(List (List (List ac)))):List (List (List ac))→Int→Option (List (List ac))
 |[],size=>
  (gW size).bind fun r=>
  ft slices r
 |e::tl,size=>
  if(decide ((IntKind.i64.wrap (size+(e.length:Int)))<(0:Int)))then
  (none)
  else
  ((fx slices tl) (IntKind.i64.wrap (size+(e.length:Int))))

def eG(slices:(List (List (List ac)))):Option (List (List ac)):=
 fx slices slices (0:Int)

def j4(r:cW)(n:ak):Option ((List (List ac))×Int):=
 (cR r.rows n.A).bind fun e=>
 (cR r.rows n.B).bind fun e1=>
 (eG ([e,e1])).bind fun r1=>
 some (r1,(0:Int))

def nX(nx:Option Int)(n:Int):Option Int:=
 if(n !=(0:Int))then
 (some n)
 else
 (nx)

def jm(a1:(List ac))(b:(List ac)):List gE→Option Int
 |[]=>
  (ph a1 b).bind fun r=>
  some r
 |e::tl=>
  (cR a1 e.Col).bind fun e1=>
  (cR b e.Col).bind fun e2=>
  (hT e1 e2).bind fun r1=>
  if e.Desc then
  (nX (jm a1 b tl) (IntKind.i64.wrap (0-r1)))
  else
  (nX (jm a1 b tl) r1)

def nY(order:(List gE))(a1:(List ac))(b:(List ac)):Option Int:=
 jm a1 b order

def B2(order:(List gE)):Option ((List ac)→(List ac)→Option Int):=
 some (nY order)

def oq(out1:List (List ac)):Option (List (List ac)):=
 some out1

def j3(order:(List gE))(limit:Int):List (List ac)→(List (List ac))→Option (List (List ac))
  |[],out=>
    (B2 order).bind fun r=>
    (yX (fun(x:(List ac)×(List ac))=>r x.1 x.2) out).bind fun rC=>
    if((decide ((0:Int)≤limit))&&(decide (limit<(rC.length:Int))))then
    ((dj rC 0 limit).bind fun y=>
    oq y)
    else
    (oq rC)
  |e::tl,out=>
    (cy e).bind fun r1=>
    (app out ([r1])).bind fun out2=>
    (j3 order limit tl) out2

def oL(rows:(List (List ac)))(order:(List gE))(limit:Int):Option (List (List ac)):=
 j3 order limit rows ([]:List (List ac))

def j5(r:cW)(n:ak):Option ((List (List ac))×Int):=
 (cR r.rows n.A).bind fun e=>
 (oL e n.Order n.Limit).bind fun r1=>
 some (r1,(0:Int))

def vJ(l:(List (List ac))):Option ((List (List ac))×Int):=
  (uU ([l])).bind fun r=>
  if(r !=(0:Int))then
  (some ([],r))
  else
  ((sN l).bind fun r1=>
  some (r1,(0:Int)))

def d3(s:(List gE)):Option (List gE):=
 (app ([]:List gE) s).bind fun x=>
 some x

def ck(s:(List bm)):Option (List bm):=
 (app ([]:List bm) s).bind fun x=>
 some x

def eW(s:(List gM)):Option (List gM):=
 (app ([]:List gM) s).bind fun x=>
 some x

def ee(s:(List bK)):Option (List bK):=
 (app ([]:List bK) s).bind fun x=>
 some x

def mV:List bK→Nat→ak→Option ak
 |[],i1,n4=>
  some n4
 |e1::tl1,i1,n4=>
  (cR n4.Items (i1:Int)).bind fun e2=>
  (ck e2.Nodes).bind fun r6=>
  (some (n4.Items.set (i1:Int).toNat ({e2 with Nodes:=r6}:bK))).bind fun st=>
  (mV tl1) (i1+1) ({n4 with Items:=st}:ak)

def mW:List gM→Nat→ak→Option ak
 |[],i,n3=>
  mV n3.Items 0 n3
 |e::tl,i,n3=>
  (cR n3.Aggs (i:Int)).bind fun e3=>
  (ck e3.Arg.Nodes).bind fun r7=>
  (some (n3.Aggs.set (i:Int).toNat ({e3 with Arg:=({e3.Arg with Nodes:=r7}:bK)}:gM))).bind fun st1=>
  (mW tl) (i+1) ({n3 with Aggs:=st1}:ak)

def mX(n2:ak):Option ak:=
 (cx n2.Kinds).bind fun r=>
 (cx n2.Keys).bind fun r1=>
 (d3 n2.Order).bind fun r2=>
 (ck (((ak.mk n2.Op n2.A n2.B n2.Table r n2.Left n2.Cond r1 n2.Aggs n2.Items r2 n2.Limit).Cond).Nodes)).bind fun r3=>
 (eW (({(ak.mk n2.Op n2.A n2.B n2.Table r n2.Left n2.Cond r1 n2.Aggs n2.Items r2 n2.Limit)with Cond:=({(ak.mk n2.Op n2.A n2.B n2.Table r n2.Left n2.Cond r1 n2.Aggs n2.Items r2 n2.Limit).Cond with Nodes:=r3}:bK)}:ak).Aggs)).bind fun r4=>
 (ee (({(ak.mk n2.Op n2.A n2.B n2.Table r n2.Left n2.Cond r1 n2.Aggs n2.Items r2 n2.Limit)with Cond:=({(ak.mk n2.Op n2.A n2.B n2.Table r n2.Left n2.Cond r1 n2.Aggs n2.Items r2 n2.Limit).Cond with Nodes:=r3}:bK)}:ak).Items)).bind fun r5=>
 mW r4 0 ({({({(ak.mk n2.Op n2.A n2.B n2.Table r n2.Left n2.Cond r1 n2.Aggs n2.Items r2 n2.Limit)with Cond:=({(ak.mk n2.Op n2.A n2.B n2.Table r n2.Left n2.Cond r1 n2.Aggs n2.Items r2 n2.Limit).Cond with Nodes:=r3}:bK)}:ak)with Aggs:=r4}:ak)with Items:=r5}:ak)

def oP(by1:Int)(n1:ak):Option ak:=
 if(decide ((0:Int)≤n1.B))then
 (mX (ak.mk n1.Op n1.A (IntKind.i64.wrap (n1.B+by1)) n1.Table n1.Kinds n1.Left n1.Cond n1.Keys n1.Aggs n1.Items n1.Order n1.Limit))
 else
 (mX n1)

def rZ(n:ak)(by1:Int):Option ak:=
 if(decide ((0:Int)≤n.A))then
 (oP by1 (ak.mk n.Op (IntKind.i64.wrap (n.A+by1)) n.B n.Table n.Kinds n.Left n.Cond n.Keys n.Aggs n.Items n.Order n.Limit))
 else
 (oP by1 n)

def nh(l:bE)(place:Int)(e:Int):Nat→Int→bE→Option (bE×Int)
  |0,_,_=>none
  |n+1,i,out=>
    if(decide (i≤place))then
    ((cR l.Nodes i).bind fun e1=>
    (rZ e1 (IntKind.i64.wrap (0-e))).bind fun r1=>
    (app out.Nodes ([r1])).bind fun l2=>
    (nh l place e n) (IntKind.i64.wrap (i+(1:Int))) ({out with Nodes:=l2}:bE))
    else
    (some (out,(0:Int)))

def s5(l:bE)(place:Int):Option (bE×Int):=
  (o7 l).bind fun r=>
  if(!r.2.2)then
  (some ((⟨[]⟩:bE),(230:Int)))
  else
  (if((decide (place<(0:Int)))||(decide ((l.Nodes.length:Int)≤place)))then
  (some ((⟨[]⟩:bE),(2:Int)))
  else
  ((cR r.1.first place).bind fun e=>
  nh l place e im e ({(⟨[]⟩:bE)with Nodes:=([]:List ak)}:bE)))

def nZ(l:bE)(nx:Nat→cW→Option ((List (List ac))×Int))(i:Nat)(r2:((List (List ac))×Int)×cW)(rows:(List (List ac))):Option ((List (List ac))×Int):=
 (s5 l (i:Int)).bind fun r3=>
 (ra r3.1).bind fun r4=>
 (app r2.2.rows ([rows])).bind fun l3=>
 (app r2.2.width ([(r4.1.length:Int)])).bind fun l4=>
 nx (i+1) ({({r2.2 with rows:=l3}:cW)with width:=l4}:cW)

def n7(l:bE)(nx:Nat→cW→Option ((List (List ac))×Int))(i:Nat)(e:ak)(r2:((List (List ac))×Int)×cW)(e2:Int):Option ((List (List ac))×Int):=
  if(e2 !=(0:Int))then
  (some ([],e2))
  else
  (if(e.Op !=(8:Int))then
  ((vJ r2.1.1).bind fun r5=>
  nZ l nx i r2 r5.1)
  else
  (nZ l nx i r2 r2.1.1))

def fV(l:bE):List ak→Nat→cW→Option ((List (List ac))×Int)
 |[],i,ob=>
  (cR ob.rows (IntKind.i64.wrap ((ob.rows.length:Int)-(1:Int)))).bind fun e1=>
  some (e1,(0:Int))
 |e::tl,i,ob=>
  (((kD (cY (cY (cY (cY (cY (cY (cY (cY ([]:List (Int×(cW→ak→Option (((List (List ac))×Int)×cW)))) (1:Int) (fun(mc:cW) (mx:ak)=>(kM mc mx).map fun mr=>(mr,mc))) (2:Int) (fun(mc:cW) (mx:ak)=>(jA mc mx).map fun mr=>(mr,mc))) (3:Int) (fun(mc:cW) (mx:ak)=>(jt mc mx).map fun mr=>(mr,mc))) (4:Int) (fun(mc:cW) (mx:ak)=>(iT mc mx).map fun mr=>(mr,mc))) (5:Int) (fun(mc:cW) (mx:ak)=>(iS mc mx).map fun mr=>(mr,mc))) (6:Int) (fun(mc:cW) (mx:ak)=>(iv mc mx).map fun mr=>(mr,mc))) (7:Int) (fun(mc:cW) (mx:ak)=>(j4 mc mx).map fun mr=>(mr,mc))) (8:Int) (fun(mc:cW) (mx:ak)=>(j5 mc mx).map fun mr=>(mr,mc))) e.Op).getD (fun _ _=>none)) ob (e)).bind fun r2=>
  if((r2.1.2==(0:Int))&&(decide ((8000:Int)<(r2.1.1.length:Int))))then
  (n7 l (fV l tl) i e r2 (3:Int))
  else
  (n7 l (fV l tl) i e r2 r2.1.2)

def jo(l:bE)(b:cB):Option ((List (List ac))×Int):=
  (pn l).bind fun r=>
  if(r.2 !=(0:Int))then
  (some ([],r.2))
  else
  ((uh l b).bind fun r1=>
  if(!r1)then
  (some ([],(250:Int)))
  else
  (fV l l.Nodes 0 (⟨b,[],[]⟩:cW)))

def EP:Option ak:=
 some (⟨(1:Int),(-1:Int),(-1:Int),(0:Int),[(2:Int)],false,(⟨[]⟩:bK),[],[],[],[],(0:Int)⟩:ak)

def GP(k:Int):Option bK:=
 some (⟨[(⟨(2:Int),(-1:Int),(-1:Int),k,(⟨(0:Int),(0:Int),(0:Int),[]⟩:ac)⟩:bm)]⟩:bK)

def Ig(k:Int):Option (List ac):=
 some ([(⟨(2:Int),k,(0:Int),[]⟩:ac)])

def CD:Option cB:=
 (Ig (1:Int)).bind fun r=>
 (Ig (2:Int)).bind fun r1=>
 some (⟨[[r,r1,[(⟨(0:Int),(0:Int),(0:Int),[]⟩:ac)]]]⟩:cB)

def tZ:Option Bool:=
  (EP).bind fun r=>
  (GP (0:Int)).bind fun r1=>
  (CD).bind fun r2=>
  (jo (⟨[r,(⟨(4:Int),(0:Int),(-1:Int),(0:Int),[],false,(⟨[]⟩:bK),[],[(⟨(1:Int),(⟨[]⟩:bK)⟩:gM),(⟨(3:Int),r1⟩:gM)],[],[],(0:Int)⟩:ak)]⟩:bE) r2).bind fun r3=>
  (if((r3.2==(0:Int))&&((r3.1.length:Int)==(1:Int)))then((cR r3.1 (0:Int)).bind fun e=>
  some ((e.length:Int)==(2:Int)))else some false).bind fun t=>
  (if t then((cR r3.1 (0:Int)).bind fun e1=>
  (cR e1 (0:Int)).bind fun e2=>
  some (e2.N==(3:Int)))else some false).bind fun t1=>
  (if t1 then((cR r3.1 (0:Int)).bind fun e3=>
  (cR e3 (1:Int)).bind fun e4=>
  some (e4.N==(3:Int)))else some false).bind fun t2=>
  some t2

def k5(nx:Option Bool):List ac→Option Bool
 |[]=>
  nx
 |e1::tl1=>
  if(decide ((200:Int)<(e1.S.length:Int)))then
  (some true)
  else
  ((k5 nx tl1))

def ii:List (List ac)→Option Bool
 |[]=>
  some false
 |e::tl=>
  if(decide ((30:Int)<(e.length:Int)))then
  (some true)
  else
  (k5 (ii tl) e)

def pS(l:(List (List ac)))(most:Int):Option Bool:=
 if(decide (most<(l.length:Int)))then
 (some true)
 else
 (ii l)

def k7:List (List (List ac))→Option Bool
 |[]=>
  some false
 |e::tl=>
  (pS e (30:Int)).bind fun r=>
  if r then
  (some true)
  else
  ((k7 tl))

def pT(b:cB):Option Bool:=
 if(decide ((10:Int)<(b.Tables.length:Int)))then
 (some true)
 else
 (k7 b.Tables)

def k6:List bm→Option Bool
 |[]=>
  some false
 |e1::tl=>
  if(decide ((200:Int)<(e1.Value.S.length:Int)))then
  (some true)
  else
  ((k6 tl))

def lN(e:bK):Option Bool:=
 if(decide ((100:Int)<(e.Nodes.length:Int)))then
 (some true)
 else
 (k6 e.Nodes)

def ni(b:cB)(nx:Int→Option Bool)(e:ak)(rows:Int):List gM→Option Bool
  |[]=>
    if(((e.Op==(1:Int))&&(decide ((0:Int)≤e.Table)))&&(decide (e.Table<(b.Tables.length:Int))))then
    ((cR b.Tables e.Table).bind fun e3=>
    nx (IntKind.i64.wrap (rows*(IntKind.i64.wrap ((e3.length:Int)+(1:Int))))))
    else
    (nx rows)
  |e2::tl2=>
    (lN e2.Arg).bind fun r1=>
    if r1 then
    (some true)
    else
    ((ni b nx e rows tl2))

def nj(b:cB)(nx:Int→Option Bool)(e:ak)(rows:Int):List bK→Option Bool
 |[]=>
  ni b nx e rows e.Aggs
 |e1::tl1=>
  (lN e1).bind fun r2=>
  if r2 then
  (some true)
  else
  ((nj b nx e rows tl1))

def jW(b:cB):List ak→Int→Option Bool
  |[],rows=>
    some (decide ((3000:Int)<rows))
  |e::tl,rows=>
    (if(!(((((decide ((20:Int)<(e.Kinds.length:Int)))||(decide ((20:Int)<(e.Keys.length:Int))))||(decide ((20:Int)<(e.Order.length:Int))))||(decide ((20:Int)<(e.Items.length:Int))))||(decide ((20:Int)<(e.Aggs.length:Int)))))then((lN e.Cond).bind fun r=>
    some r)else some true).bind fun t=>
    if t then
    (some true)
    else
    (nj b (jW b tl) e rows e.Items)

def vO(l:bE)(b:cB):Option Bool:=
 if(decide ((30:Int)<(l.Nodes.length:Int)))then
 (some true)
 else
 (jW b l.Nodes (1:Int))

def dH(v:ac):Option Bool:=
  if(v.Kind==(0:Int))then
  (some (decide (v=(⟨(0:Int),(0:Int),(0:Int),[]⟩:ac))))
  else
  (if(v.Kind==(1:Int))then
  (some (((v.U==(0:Int))&&(v.S==([])))&&((v.N==(0:Int))||(v.N==(1:Int)))))
  else
  (if(v.Kind==(2:Int))then
  (some ((v.U==(0:Int))&&(v.S==([]))))
  else
  (if(v.Kind==(3:Int))then
  (some (((v.N==(0:Int))&&(v.U==(0:Int)))&&(decide ((v.S.length:Int)≤(40:Int)))))
  else
  (some ((v.Kind==(4:Int))&&(v.S==([])))))))

def qj(less:Bool):Option Int:=
 if less then
 (some (-1:Int))
 else
 (some (1:Int))

def pj(a1:ac)(b:ac):Option Int:=
  if(a1.Kind !=b.Kind)then
  ((qj (decide (a1.Kind<b.Kind))).bind fun r=>
  some r)
  else
  (if(a1.N !=b.N)then
  ((qj (decide (a1.N<b.N))).bind fun r1=>
  some r1)
  else
  (if(a1.U !=b.U)then
  ((qj (decide (a1.U<b.U))).bind fun r2=>
  some r2)
  else
  (if(!(a1.S==b.S))then
  ((qj (Op.bytesLess a1.S b.S)).bind fun r3=>
  some r3)
  else
  (some (0:Int)))))

def lJ(x1:Bool):Option Int:=
 if x1 then
 (some (1:Int))
 else
 (some (-1:Int))

def sS(op:Int)(x:Bool):Option Int:=
  if x then
  (some (2:Int))
  else
  (if(op==(3:Int))then
  (lJ (op==(3:Int)))
  else
  (if(op==(4:Int))then
  (lJ (op==(4:Int)))
  else
  (if(op==(5:Int))then
  (lJ (op==(5:Int)))
  else
  (if(op==(6:Int))then
  (lJ (op==(6:Int)))
  else
  (lJ (op==(8:Int)))))))

def xd(op:Int):Option Int:=
  if(op==(1:Int))then
  (some (0:Int))
  else
  (if(op==(2:Int))then
  (sS op (op==(2:Int)))
  else
  (sS op (op==(7:Int))))

def bU:Nat→bE→Int→Option Int
  |0,_,_=>none
  |fu+1,l,at1=>
    if((decide (at1<(0:Int)))||(decide ((l.Nodes.length:Int)≤at1)))then
    (some (0:Int))
    else
    ((cR l.Nodes at1).bind fun e=>
    (xd e.Op).bind fun r=>
    if(r==(0:Int))then
    (if((e.A==(-1:Int))&&(e.B==(-1:Int)))then
    (some (1:Int))
    else
    (some (0:Int)))
    else
    (if(r==(1:Int))then
    (if((e.A==(IntKind.i64.wrap (at1-(1:Int))))&&(e.B==(-1:Int)))then
    (((bU fu) l e.A).bind fun r1=>
    if(decide ((0:Int)<r1))then
    (some (IntKind.i64.wrap (r1+(1:Int))))
    else
    (some (0:Int)))
    else
    (some (0:Int)))
    else
    (if(r==(2:Int))then
    (if(e.B==(IntKind.i64.wrap (at1-(1:Int))))then
    (((bU fu) l e.B).bind fun r2=>
    if((decide ((0:Int)<r2))&&(e.A==(IntKind.i64.wrap (e.B-r2))))then
    (((bU fu) l e.A).bind fun r3=>
    if(decide ((0:Int)<r3))then
    (some (IntKind.i64.wrap ((IntKind.i64.wrap (r3+r2))+(1:Int))))
    else
    (some (0:Int)))
    else
    (some (0:Int)))
    else
    (some (0:Int)))
    else
    (some (0:Int)))))

def kg(l:bE)(at1:Int):Option Int:=
 bU im l at1

def uV(n:ak):Option Bool:=
  if((n.Op !=(1:Int))&&((n.Table !=(0:Int))||(decide ((0:Int)<(n.Kinds.length:Int)))))then
  (some false)
  else
  (if(((n.Op !=(2:Int))&&n.Left)||(((n.Op !=(2:Int))&&(n.Op !=(3:Int)))&&(decide ((0:Int)<(n.Cond.Nodes.length:Int)))))then
  (some false)
  else
  (if(((n.Op !=(4:Int))&&((decide ((0:Int)<(n.Keys.length:Int)))||(decide ((0:Int)<(n.Aggs.length:Int)))))||((n.Op !=(5:Int))&&(decide ((0:Int)<(n.Items.length:Int)))))then
  (some false)
  else
  (some ((n.Op==(8:Int))||(((n.Order.length:Int)==(0:Int))&&(n.Limit==(0:Int)))))))

def CA(tag:Int):Option Int:=
  if((decide (tag<(1:Int)))||(decide ((23:Int)<tag)))then
  (some (-1:Int))
  else
  (if(decide (tag≤(3:Int)))then
  (some (0:Int))
  else
  (if(decide (tag≤(11:Int)))then
  (some (1:Int))
  else
  (some (2:Int))))

def xf(tag:Int):Option Int:=
  if((tag==(3:Int))||((decide ((8:Int)≤tag))&&(decide (tag≤(11:Int)))))then
  (some (-1:Int))
  else
  ((CA tag).bind fun r=>
  some r)

def md(v:ac):Option Bool:=
 (dH v).bind fun r=>
 some (r&&(v.Kind !=(4:Int)))

def mw(n:bm):Option Bool:=
  if(n.Tag==(1:Int))then
  ((md n.Value).bind fun r=>
  some (r&&(n.Col==(0:Int))))
  else
  (if(n.Tag==(2:Int))then
  (some (((decide (n.Value=(⟨(0:Int),(0:Int),(0:Int),[]⟩:ac)))&&(decide ((0:Int)≤n.Col)))&&(decide (n.Col<(16:Int)))))
  else
  (some ((decide (n.Value=(⟨(0:Int),(0:Int),(0:Int),[]⟩:ac)))&&(n.Col==(0:Int)))))

def i7:Nat→bK→Int→Option Int
  |0,_,_=>none
  |fu+1,e,place=>
    if((decide (place<(0:Int)))||(decide ((e.Nodes.length:Int)≤place)))then
    (some (0:Int))
    else
    ((cR e.Nodes place).bind fun e1=>
    (xf e1.Tag).bind fun r=>
    (if(!(decide (r<(0:Int))))then((mw e1).bind fun r1=>
    some (!r1))else some true).bind fun t=>
    if t then
    (some (0:Int))
    else
    (if(r==(0:Int))then
    (if((e1.L !=(-1:Int))||(e1.R !=(-1:Int)))then
    (some (0:Int))
    else
    (some (1:Int)))
    else
    (((i7 fu) e (IntKind.i64.wrap (place-(1:Int)))).bind fun r2=>
    if(r2==(0:Int))then
    (some (0:Int))
    else
    (if(r==(1:Int))then
    (if((e1.L !=(IntKind.i64.wrap (place-(1:Int))))||(e1.R !=(-1:Int)))then
    (some (0:Int))
    else
    (some (IntKind.i64.wrap (r2+(1:Int)))))
    else
    (((i7 fu) e (IntKind.i64.wrap ((IntKind.i64.wrap (place-(1:Int)))-r2))).bind fun r3=>
    if(((r3==(0:Int))||(e1.R !=(IntKind.i64.wrap (place-(1:Int)))))||(e1.L !=(IntKind.i64.wrap ((IntKind.i64.wrap (place-(1:Int)))-r2))))then
    (some (0:Int))
    else
    (some (IntKind.i64.wrap ((IntKind.i64.wrap (r3+r2))+(1:Int)))))))))

def Eo(e:bK)(place:Int):Option Int:=
 i7 im e place

def tU(e:bK):Option Bool:=
  (if((decide ((1:Int)≤(e.Nodes.length:Int)))&&(decide ((e.Nodes.length:Int)≤(1000:Int))))then((Eo e (IntKind.i64.wrap ((e.Nodes.length:Int)-(1:Int)))).bind fun r=>
  some (r==(e.Nodes.length:Int)))else some false).bind fun t=>
  some t

def ie(k:Int)(want:Int):Option Bool:=
 some ((k==want)||(k==(0:Int)))

def iP(tag:Int)(l:Int)(r:Int):Option (Int×Bool):=
  if((tag==(4:Int))||((decide ((12:Int)≤tag))&&(decide (tag≤(15:Int)))))then
  ((ie l (2:Int)).bind fun r1=>
  (if r1 then((ie r (2:Int)).bind fun r2=>
  some r2)else some false).bind fun t=>
  some ((2:Int),t))
  else
  (if((tag==(5:Int))||(decide ((22:Int)≤tag)))then
  ((ie l (1:Int)).bind fun r3=>
  (if r3 then((ie r (1:Int)).bind fun r4=>
  some r4)else some false).bind fun t1=>
  some ((1:Int),t1))
  else
  (if((tag==(6:Int))||(tag==(7:Int)))then
  (some ((1:Int),true))
  else
  (some ((1:Int),(((l==r)||(l==(0:Int)))||(r==(0:Int)))))))

def qL(nx2:(List Int)→Option (Int×Int))(e3:bm)(own:List Int)(e6:Int)(r1:Int):Option (Int×Int):=
  (iP e3.Tag e6 r1).bind fun r2=>
  if(!r2.2)then
  (some ((0:Int),(201:Int)))
  else
  ((app own ([r2.1])).bind fun own3=>
  nx2 own3)

def dm(kinds:(List Int)):List bm→(List Int)→Option (Int×Int)
  |[],own=>
    (cR own (IntKind.i64.wrap ((own.length:Int)-(1:Int)))).bind fun e4=>
    some (e4,(0:Int))
  |e3::tl2,own=>
    if(e3.Tag==(1:Int))then
    ((app own ([e3.Value.Kind])).bind fun own1=>
    (dm kinds tl2) own1)
    else
    (if(e3.Tag==(2:Int))then
    ((cR kinds e3.Col).bind fun e5=>
    (app own ([e5])).bind fun own2=>
    (dm kinds tl2) own2)
    else
    ((cR own e3.L).bind fun e6=>
    if(decide ((0:Int)≤e3.R))then
    ((cR own e3.R).bind fun e7=>
    qL (dm kinds tl2) e3 own e6 e7)
    else
    (qL (dm kinds tl2) e3 own e6 (0:Int))))

def oF(e:bK)(kinds:(List Int)):List bm→Option (Int×Int)
 |[]=>
  dm kinds e.Nodes ([]:List Int)
 |e2::tl1=>
  if((e2.Tag==(2:Int))&&(decide ((kinds.length:Int)≤e2.Col)))then
  (some ((0:Int),(2:Int)))
  else
  ((oF e kinds tl1))

def qK(e:bK)(kinds:(List Int)):List Int→Option (Int×Int)
 |[]=>
  oF e kinds e.Nodes
 |e1::tl=>
  if((decide (e1<(0:Int)))||(decide ((3:Int)<e1)))then
  (some ((0:Int),(2:Int)))
  else
  ((qK e kinds tl))

def sT(e:bK)(kinds:(List Int)):Option (Int×Int):=
 (tU e).bind fun r=>
 if(!r)then
 (some ((0:Int),(200:Int)))
 else
 (qK e kinds kinds)

def tS(e:bK)(kinds:(List Int)):Option Bool:=
 (sT e kinds).bind fun r=>
 some ((r.2==(0:Int))&&((r.1==(0:Int))||(r.1==(1:Int))))

def kL(a1:gM)(kinds:(List Int)):Option (Int×Bool):=
  if(a1.Tag==(1:Int))then
  (some ((2:Int),((a1.Arg.Nodes.length:Int)==(0:Int))))
  else
  ((sT a1.Arg kinds).bind fun r=>
  if(((decide (a1.Tag<(1:Int)))||(decide ((5:Int)<a1.Tag)))||(r.2 !=(0:Int)))then
  (some ((0:Int),false))
  else
  (if(((a1.Tag==(3:Int))&&(r.1 !=(2:Int)))&&(r.1 !=(0:Int)))then
  (some ((0:Int),false))
  else
  (if(decide ((4:Int)≤a1.Tag))then
  (some (r.1,true))
  else
  (some ((2:Int),true)))))

def dA(n:ak):Nat→Bool→Int→Option ((List Int)×Bool)
  |0,_,_=>none
  |n1+1,ok,i=>
    if(decide (i<(n.Kinds.length:Int)))then
    ((if ok then((cR n.Kinds i).bind fun e=>
    some (decide ((1:Int)≤e)))else some false).bind fun t=>
    (if t then((cR n.Kinds i).bind fun e1=>
    some (decide (e1≤(3:Int))))else some false).bind fun t1=>
    (dA n n1) t1 (IntKind.i64.wrap (i+(1:Int))))
    else
    (some (n.Kinds,((((ok&&(decide ((0:Int)≤n.Table)))&&(decide (n.Table≤(3:Int))))&&(decide ((1:Int)≤(n.Kinds.length:Int))))&&(decide ((n.Kinds.length:Int)≤(4:Int))))))

def dO(n:ak)(a1:(List Int)):Nat→(List Int)→Bool→Int→Option ((List Int)×Bool)
  |0,_,_,_=>none
  |n3+1,out3,ok1,i2=>
    if(decide (i2<(n.Aggs.length:Int)))then
    ((cR n.Aggs i2).bind fun e4=>
    (kL e4 a1).bind fun r2=>
    (app out3 ([r2.1])).bind fun out4=>
    (dO n a1 n3) out4 (ok1&&r2.2) (IntKind.i64.wrap (i2+(1:Int))))
    else
    (some (out3,(((ok1&&(decide ((n.Keys.length:Int)≤(3:Int))))&&(decide ((n.Aggs.length:Int)≤(12:Int))))&&(decide ((0:Int)<(out3.length:Int))))))

def dP(n:ak)(a1:(List Int)):Nat→(List Int)→Int→Option ((List Int)×Bool)
  |0,_,_=>none
  |n2+1,out1,i1=>
    if(decide (i1<(n.Keys.length:Int)))then
    ((cR n.Keys i1).bind fun e2=>
    if((decide (e2<(0:Int)))||(decide ((a1.length:Int)≤e2)))then
    (some ([],false))
    else
    ((cR a1 e2).bind fun e3=>
    (app out1 ([e3])).bind fun out2=>
    (dP n a1 n2) out2 (IntKind.i64.wrap (i1+(1:Int)))))
    else
    (dO n a1 im out1 true (0:Int))

def dN(n:ak)(a1:(List Int)):Nat→(List Int)→Bool→Int→Option ((List Int)×Bool)
  |0,_,_,_=>none
  |n4+1,out5,ok2,i3=>
    if(decide (i3<(n.Items.length:Int)))then
    ((cR n.Items i3).bind fun e5=>
    (sT e5 a1).bind fun r3=>
    (app out5 ([r3.1])).bind fun out6=>
    (dN n a1 n4) out6 (ok2&&(r3.2==(0:Int))) (IntKind.i64.wrap (i3+(1:Int))))
    else
    (some (out5,((ok2&&(decide ((1:Int)≤(out5.length:Int))))&&(decide ((out5.length:Int)≤(16:Int))))))

def ic(b:(List Int))(nx4:Nat→(List Int)→Bool→Option ((List Int)×Bool))(i4:Nat)(out7:List Int)(ok3:Bool)(k:Int):Option ((List Int)×Bool):=
  (app out7 ([k])).bind fun out8=>
  (if ok3 then((cR b (i4:Int)).bind fun e7=>
  (if(!(e7==k))then((cR b (i4:Int)).bind fun e8=>
  some (e8==(0:Int)))else some true).bind fun t3=>
  some t3)else some false).bind fun t2=>
  nx4 (i4+1) out8 t2

def dy(b:(List Int)):List Int→Nat→(List Int)→Bool→Option ((List Int)×Bool)
  |[],i4,out7,ok3=>
    some (out7,ok3)
  |e6::tl,i4,out7,ok3=>
    if(e6==(0:Int))then
    ((cR b (i4:Int)).bind fun e9=>
    ic b (dy b tl) i4 out7 ok3 e9)
    else
    (ic b (dy b tl) i4 out7 ok3 e6)

def dg(n:ak)(a1:(List Int)):Nat→Bool→Int→Option ((List Int)×Bool)
  |0,_,_=>none
  |n5+1,ok4,i5=>
    if(decide (i5<(n.Order.length:Int)))then
    ((if ok4 then((cR n.Order i5).bind fun e10=>
    some (decide ((0:Int)≤e10.Col)))else some false).bind fun t4=>
    (if t4 then((cR n.Order i5).bind fun e11=>
    some (decide (e11.Col<(a1.length:Int))))else some false).bind fun t5=>
    (dg n a1 n5) t5 (IntKind.i64.wrap (i5+(1:Int))))
    else
    (some (a1,(((ok4&&(decide ((n.Order.length:Int)≤(3:Int))))&&(decide ((-1:Int)≤n.Limit)))&&(decide (n.Limit≤(2147483647:Int))))))

def bq(n:ak)(a1:(List Int))(b:(List Int)):Option ((List Int)×Bool):=
  if(n.Op==(1:Int))then
  (dA n im true (0:Int))
  else
  (if(n.Op==(2:Int))then
  ((app ([]:List Int) a1).bind fun l=>
  (app l b).bind fun out=>
  (tS n.Cond out).bind fun r=>
  some (out,r))
  else
  (if(n.Op==(3:Int))then
  ((tS n.Cond a1).bind fun r1=>
  some (a1,r1))
  else
  (if(n.Op==(4:Int))then
  (dP n a1 im ([]:List Int) (0:Int))
  else
  (if(n.Op==(5:Int))then
  (dN n a1 im ([]:List Int) true (0:Int))
  else
  (if(n.Op==(6:Int))then
  (some (a1,true))
  else
  (if(n.Op==(7:Int))then
  (if((a1.length:Int) !=(b.length:Int))then
  (some ([],false))
  else
  (dy b a1 0 ([]:List Int) true))
  else
  (dg n a1 im true (0:Int))))))))

def gB(l:bE)(at1:Int)(e1:ak)(a1:(List Int))(b1:(List Int)):Option ((List Int)×Bool):=
 (bq e1 a1 b1).bind fun r2=>
 if(((e1.Op==(8:Int))&&(at1 !=(IntKind.i64.wrap ((l.Nodes.length:Int)-(1:Int)))))||(decide ((16:Int)<(r2.1.length:Int))))then
 (some ([],false))
 else
 (some (r2.1,r2.2))

def eg(self__:bE→Int→Option ((List Int)×Bool))(l:bE)(at1:Int)(e1:ak)(a1:(List Int)):Option ((List Int)×Bool):=
  if(decide ((0:Int)≤e1.B))then
  ((self__ l e1.B).bind fun r3=>
  if(!r3.2)then
  (some ([],false))
  else
  (gB l at1 e1 a1 r3.1))
  else
  (gB l at1 e1 a1 ([]))

def ci:Nat→bE→Int→Option ((List Int)×Bool)
  |0,_,_=>none
  |fu+1,l,at1=>
    (kg l at1).bind fun r=>
    (if(!(r==(0:Int)))then((cR l.Nodes at1).bind fun e=>
    (uV e).bind fun r1=>
    some (!r1))else some true).bind fun t=>
    if t then
    (some ([],false))
    else
    ((cR l.Nodes at1).bind fun e1=>
    if(decide ((0:Int)≤e1.A))then
    (((ci fu) l e1.A).bind fun r4=>
    if(!r4.2)then
    (some ([],false))
    else
    (eg (ci fu) l at1 e1 r4.1))
    else
    (eg (ci fu) l at1 e1 ([])))

def qY(l:bE)(at1:Int):Option ((List Int)×Bool):=
 ci im l at1

def eX(l:bE):List ak→Nat→Option Int
 |[],i=>
  (kg l (IntKind.i64.wrap ((l.Nodes.length:Int)-(1:Int)))).bind fun r=>
  if(r !=(l.Nodes.length:Int))then
  (some (IntKind.i64.wrap ((l.Nodes.length:Int)-(1:Int))))
  else
  (some (-1:Int))
 |e::tl,i=>
  (qY l (i:Int)).bind fun r1=>
  if(!r1.2)then
  (some (i:Int))
  else
  ((eX l tl) (i+1))

def qX(l:bE):Option Int:=
 if((decide ((l.Nodes.length:Int)<(1:Int)))||(decide ((60:Int)<(l.Nodes.length:Int))))then
 (some (0:Int))
 else
 (eX l l.Nodes 0)

def Cz(l:bE):Option Bool:=
 (qX l).bind fun r=>
 some (decide (r<(0:Int)))

def jZ(n:Int):Option ac:=
 some (⟨(2:Int),n,(0:Int),[]⟩:ac)

def o6(v:ac):Option Bool:=
 (dH v).bind fun r=>
 some (r&&((v.Kind==(0:Int))||(v.Kind==(2:Int))))

def nL(high:Int)(low:Int)(b2:eF):Option eF:=
 some ({({({({b2 with D:=(b2.D.set (0:Int).toNat ((low).tmod (4294967296:Int)))}:eF)with D:=((({b2 with D:=(b2.D.set (0:Int).toNat ((low).tmod (4294967296:Int)))}:eF).D).set (1:Int).toNat ((low).fdiv (2^(min (Int.toNat (32:Int)) IntKind.u64.bits))))}:eF)with D:=((({({b2 with D:=(b2.D.set (0:Int).toNat ((low).tmod (4294967296:Int)))}:eF)with D:=((({b2 with D:=(b2.D.set (0:Int).toNat ((low).tmod (4294967296:Int)))}:eF).D).set (1:Int).toNat ((low).fdiv (2^(min (Int.toNat (32:Int)) IntKind.u64.bits))))}:eF).D).set (2:Int).toNat ((high).tmod (4294967296:Int)))}:eF)with D:=((({({({b2 with D:=(b2.D.set (0:Int).toNat ((low).tmod (4294967296:Int)))}:eF)with D:=((({b2 with D:=(b2.D.set (0:Int).toNat ((low).tmod (4294967296:Int)))}:eF).D).set (1:Int).toNat ((low).fdiv (2^(min (Int.toNat (32:Int)) IntKind.u64.bits))))}:eF)with D:=((({({b2 with D:=(b2.D.set (0:Int).toNat ((low).tmod (4294967296:Int)))}:eF)with D:=((({b2 with D:=(b2.D.set (0:Int).toNat ((low).tmod (4294967296:Int)))}:eF).D).set (1:Int).toNat ((low).fdiv (2^(min (Int.toNat (32:Int)) IntKind.u64.bits))))}:eF).D).set (2:Int).toNat ((high).tmod (4294967296:Int)))}:eF).D).set (3:Int).toNat ((high).fdiv (2^(min (Int.toNat (32:Int)) IntKind.u64.bits))))}:eF)

def q5(n:Int)(u:Int):Option eF:=
  if(decide (n<(0:Int)))then
  (if((IntKind.u64.wrap ((eZ .xor .u64 (if IntKind.u64.signed then -1 else IntKind.u64.max) u)+(1:Int)))==(0:Int))then
  (nL (IntKind.u64.wrap ((eZ .xor .u64 (if IntKind.u64.signed then -1 else IntKind.u64.max) (IntKind.u64.wrap n))+(1:Int))) (IntKind.u64.wrap ((eZ .xor .u64 (if IntKind.u64.signed then -1 else IntKind.u64.max) u)+(1:Int))) (eF.mk (⟨(List.replicate 8 (0:Int)),false⟩:eF).D true))
  else
  (nL (eZ .xor .u64 (if IntKind.u64.signed then -1 else IntKind.u64.max) (IntKind.u64.wrap n)) (IntKind.u64.wrap ((eZ .xor .u64 (if IntKind.u64.signed then -1 else IntKind.u64.max) u)+(1:Int))) (eF.mk (⟨(List.replicate 8 (0:Int)),false⟩:eF).D true)))
  else
  (nL (IntKind.u64.wrap n) u (⟨(List.replicate 8 (0:Int)),false⟩:eF))

def fG(n:Int):Option eF:=
  if(decide (n<(0:Int)))then
  ((q5 (-1:Int) (IntKind.u64.wrap n)).bind fun r=>
  some r)
  else
  ((q5 (0:Int) (IntKind.u64.wrap n)).bind fun r1=>
  some r1)

def li(a1:eF)(b:eF):Nat→Int→Option Bool
  |0,_=>none
  |n+1,i=>
    if(decide ((0:Int)≤i))then
    ((cR a1.D i).bind fun e=>
    (cR b.D i).bind fun e1=>
    if(e !=e1)then
    (some (decide (e<e1)))
    else
    ((li a1 b n) (IntKind.i64.wrap (i-(1:Int)))))
    else
    (some false)

def sW(a1:eF)(b:eF):Option Bool:=
 li a1 b im (7:Int)

def sU(a1:eF):Option Bool:=
 some (decide (a1.D=(List.replicate 8 (0:Int))))

def gC(a2:eF)(b4:eF):Nat→Nat→Int→eF→Option eF
  |0,i,carry,out=>
    (if out.Below then((sU out).bind fun r=>
    some (!r))else some false).bind fun t=>
    some (eF.mk out.D t)
  |k1+1,i,carry,out=>
    if(a2.Below==b4.Below)then
    ((Rs (i:Int) 8).bind fun u=>
    (cR a2.D (i:Int)).bind fun e1=>
    (Rs (i:Int) 8).bind fun u1=>
    (cR b4.D (i:Int)).bind fun e2=>
    (Rs (i:Int) 8).bind fun u2=>
    (gC a2 b4 k1) (i+1) (((IntKind.u64.wrap ((IntKind.u64.wrap (e1+e2))+carry))).fdiv (2^(min (Int.toNat (32:Int)) IntKind.u64.bits))) ({out with D:=(out.D.set (i:Int).toNat (((IntKind.u64.wrap ((IntKind.u64.wrap (e1+e2))+carry))).tmod (4294967296:Int)))}:eF))
    else
    ((Rs (i:Int) 8).bind fun u3=>
    (cR a2.D (i:Int)).bind fun e3=>
    (Rs (i:Int) 8).bind fun u4=>
    (cR b4.D (i:Int)).bind fun e4=>
    (Rs (i:Int) 8).bind fun u5=>
    (gC a2 b4 k1) (i+1) (IntKind.u64.wrap ((1:Int)-(((IntKind.u64.wrap ((IntKind.u64.wrap ((IntKind.u64.wrap (e3+(4294967296:Int)))-e4))-carry))).fdiv (2^(min (Int.toNat (32:Int)) IntKind.u64.bits))))) ({out with D:=(out.D.set (i:Int).toNat (((IntKind.u64.wrap ((IntKind.u64.wrap ((IntKind.u64.wrap (e3+(4294967296:Int)))-e4))-carry))).tmod (4294967296:Int)))}:eF))

def hM(a2:eF)(b4:eF):Option eF:=
 gC a2 b4 8 0 (0:Int) (⟨(List.replicate 8 (0:Int)),a2.Below⟩:eF)

def my(a1:eF)(b:eF):Option eF:=
  (if(a1.Below !=b.Below)then((sW a1 b).bind fun r1=>
  some r1)else some false).bind fun t1=>
  if t1 then
  (hM b a1)
  else
  (hM a1 b)

def lj(a1:eF)(high:Int)(low:Int):Option (Int×Int×Bool):=
 some ((IntKind.i64.wrap high),low,((decide ((IntKind.i64.wrap high)<(0:Int)))==a1.Below))

def fc(a1:eF)(e:Int)(e1:Int)(e2:Int)(e3:Int):Nat→Nat→Option (Int×Int×Bool)
  |0,i=>
    if a1.Below then
    (if((IntKind.u64.wrap ((eZ .xor .u64 (if IntKind.u64.signed then -1 else IntKind.u64.max) (IntKind.u64.wrap ((IntKind.u64.wrap (e2*2^(min (Int.toNat (32:Int)) IntKind.u64.bits)))+e3)))+(1:Int)))==(0:Int))then
    (lj a1 (IntKind.u64.wrap ((eZ .xor .u64 (if IntKind.u64.signed then -1 else IntKind.u64.max) (IntKind.u64.wrap ((IntKind.u64.wrap (e*2^(min (Int.toNat (32:Int)) IntKind.u64.bits)))+e1)))+(1:Int))) (IntKind.u64.wrap ((eZ .xor .u64 (if IntKind.u64.signed then -1 else IntKind.u64.max) (IntKind.u64.wrap ((IntKind.u64.wrap (e2*2^(min (Int.toNat (32:Int)) IntKind.u64.bits)))+e3)))+(1:Int))))
    else
    (lj a1 (eZ .xor .u64 (if IntKind.u64.signed then -1 else IntKind.u64.max) (IntKind.u64.wrap ((IntKind.u64.wrap (e*2^(min (Int.toNat (32:Int)) IntKind.u64.bits)))+e1))) (IntKind.u64.wrap ((eZ .xor .u64 (if IntKind.u64.signed then -1 else IntKind.u64.max) (IntKind.u64.wrap ((IntKind.u64.wrap (e2*2^(min (Int.toNat (32:Int)) IntKind.u64.bits)))+e3)))+(1:Int)))))
    else
    (lj a1 (IntKind.u64.wrap ((IntKind.u64.wrap (e*2^(min (Int.toNat (32:Int)) IntKind.u64.bits)))+e1)) (IntKind.u64.wrap ((IntKind.u64.wrap (e2*2^(min (Int.toNat (32:Int)) IntKind.u64.bits)))+e3)))
  |k1+1,i=>
    (cR a1.D (i:Int)).bind fun e5=>
    if(e5 !=(0:Int))then
    (some ((0:Int),(0:Int),false))
    else
    ((fc a1 e e1 e2 e3 k1) (i+1))

def vK(a1:eF):Option (Int×Int×Bool):=
 (cR a1.D (3:Int)).bind fun e=>
 (cR a1.D (2:Int)).bind fun e1=>
 (cR a1.D (1:Int)).bind fun e2=>
 (cR a1.D (0:Int)).bind fun e3=>
 fc a1 e e1 e2 e3 (8-4) 4

def iA(a1:eF):Option (Int×Bool):=
 (vK a1).bind fun r=>
 some ((IntKind.i64.wrap r.2.1),(r.2.2&&(((r.1==(0:Int))&&(decide ((0:Int)≤(IntKind.i64.wrap r.2.1))))||((r.1==(-1:Int))&&(decide ((IntKind.i64.wrap r.2.1)<(0:Int)))))))

def rR(a1:eF):Option eF:=
  (if(!a1.Below)then((sU a1).bind fun r=>
  some (!r))else some false).bind fun t=>
  some (eF.mk a1.D t)

def jd(a1:eF)(b:eF)(nx:Nat→eF→Option eF)(i:Nat):Nat→Nat→Int→eF→Option eF
 |0,i1,carry,out1=>
  (Rs (IntKind.i64.wrap ((i:Int)+(4:Int))) 8).bind fun u=>
  nx (i+1) ({out1 with D:=(out1.D.set (IntKind.i64.wrap ((i:Int)+(4:Int))).toNat carry)}:eF)
 |k3+1,i1,carry,out1=>
  (Rs (IntKind.i64.wrap ((i:Int)+(i1:Int))) 8).bind fun u1=>
  (cR out1.D (IntKind.i64.wrap ((i:Int)+(i1:Int)))).bind fun e2=>
  (cR a1.D (i:Int)).bind fun e3=>
  (cR b.D (i1:Int)).bind fun e4=>
  (Rs (IntKind.i64.wrap ((i:Int)+(i1:Int))) 8).bind fun u2=>
  (jd a1 b nx i k3) (i1+1) (((IntKind.u64.wrap ((IntKind.u64.wrap (e2+(IntKind.u64.wrap (e3*e4))))+carry))).fdiv (2^(min (Int.toNat (32:Int)) IntKind.u64.bits))) ({out1 with D:=(out1.D.set (IntKind.i64.wrap ((i:Int)+(i1:Int))).toNat (((IntKind.u64.wrap ((IntKind.u64.wrap (e2+(IntKind.u64.wrap (e3*e4))))+carry))).tmod (4294967296:Int)))}:eF)

def eY(a1:eF)(b:eF):Nat→Nat→eF→Option eF
  |0,i,out=>
    (if(a1.Below !=b.Below)then((sU out).bind fun r=>
    some (!r))else some false).bind fun t=>
    some (eF.mk out.D t)
  |k1+1,i,out=>
    jd a1 b (eY a1 b k1) i 4 0 (0:Int) out

def tW(a1:eF)(b:eF):Option eF:=
 eY a1 b 4 0 (⟨(List.replicate 8 (0:Int)),false⟩:eF)

def nK(a1:eF)(b:eF):Option eF:=
 (cR a1.D (1:Int)).bind fun e=>
 (cR a1.D (0:Int)).bind fun e1=>
 (cR b.D (1:Int)).bind fun e2=>
 (cR b.D (0:Int)).bind fun e3=>
 (nz (IntKind.u64.wrap ((IntKind.u64.wrap (e2*2^(min (Int.toNat (32:Int)) IntKind.u64.bits)))+e3))).bind fun _=>
 some (⟨(((List.replicate 8 (0:Int)).set 0 (((IntKind.u64.wrap (((IntKind.u64.wrap ((IntKind.u64.wrap (e*2^(min (Int.toNat (32:Int)) IntKind.u64.bits)))+e1))).tdiv (IntKind.u64.wrap ((IntKind.u64.wrap (e2*2^(min (Int.toNat (32:Int)) IntKind.u64.bits)))+e3))))).tmod (4294967296:Int))).set 1 (((IntKind.u64.wrap (((IntKind.u64.wrap ((IntKind.u64.wrap (e*2^(min (Int.toNat (32:Int)) IntKind.u64.bits)))+e1))).tdiv (IntKind.u64.wrap ((IntKind.u64.wrap (e2*2^(min (Int.toNat (32:Int)) IntKind.u64.bits)))+e3))))).fdiv (2^(min (Int.toNat (32:Int)) IntKind.u64.bits)))),((a1.Below !=b.Below)&&((IntKind.u64.wrap (((IntKind.u64.wrap ((IntKind.u64.wrap (e*2^(min (Int.toNat (32:Int)) IntKind.u64.bits)))+e1))).tdiv (IntKind.u64.wrap ((IntKind.u64.wrap (e2*2^(min (Int.toNat (32:Int)) IntKind.u64.bits)))+e3)))) !=(0:Int)))⟩:eF)

def iH(op:Int)(a1:ac)(b:ac):Option (ac×Int):=
  (dH a1).bind fun r=>
  (if(!(!r))then((dH b).bind fun r1=>
  some (!r1))else some true).bind fun t=>
  if t then
  (some ((⟨(0:Int),(0:Int),(0:Int),[]⟩:ac),(120:Int)))
  else
  ((o6 a1).bind fun r2=>
  (if(!(!r2))then((o6 b).bind fun r3=>
  some (!r3))else some true).bind fun t1=>
  if t1 then
  (some ((⟨(0:Int),(0:Int),(0:Int),[]⟩:ac),(2:Int)))
  else
  (if((a1.Kind==(0:Int))||(b.Kind==(0:Int)))then
  (some ((⟨(0:Int),(0:Int),(0:Int),[]⟩:ac),(0:Int)))
  else
  (if(op==(43:Int))then
  ((fG a1.N).bind fun r4=>
  (fG b.N).bind fun r5=>
  (my r4 r5).bind fun r6=>
  (iA r6).bind fun r7=>
  if(!r7.2)then
  (some ((⟨(0:Int),(0:Int),(0:Int),[]⟩:ac),(140:Int)))
  else
  ((jZ r7.1).bind fun r8=>
  some (r8,(0:Int))))
  else
  (if(op==(45:Int))then
  ((fG a1.N).bind fun r9=>
  (fG b.N).bind fun r10=>
  (rR r10).bind fun r11=>
  (my r9 r11).bind fun r12=>
  (iA r12).bind fun r13=>
  if(!r13.2)then
  (some ((⟨(0:Int),(0:Int),(0:Int),[]⟩:ac),(140:Int)))
  else
  ((jZ r13.1).bind fun r14=>
  some (r14,(0:Int))))
  else
  (if(op==(42:Int))then
  ((fG a1.N).bind fun r15=>
  (fG b.N).bind fun r16=>
  (tW r15 r16).bind fun r17=>
  (iA r17).bind fun r18=>
  if(!r18.2)then
  (some ((⟨(0:Int),(0:Int),(0:Int),[]⟩:ac),(140:Int)))
  else
  ((jZ r18.1).bind fun r19=>
  some (r19,(0:Int))))
  else
  (if(b.N==(0:Int))then
  (some ((⟨(0:Int),(0:Int),(0:Int),[]⟩:ac),(140:Int)))
  else
  ((fG a1.N).bind fun r20=>
  (fG b.N).bind fun r21=>
  (nK r20 r21).bind fun r22=>
  (iA r22).bind fun r23=>
  if(!r23.2)then
  (some ((⟨(0:Int),(0:Int),(0:Int),[]⟩:ac),(140:Int)))
  else
  ((jZ r23.1).bind fun r24=>
  some (r24,(0:Int))))))))))

def kh(b:Bool):Option ac:=
 if b then
 (some (⟨(1:Int),(1:Int),(0:Int),[]⟩:ac))
 else
 (some (⟨(1:Int),(0:Int),(0:Int),[]⟩:ac))

def pN(a1:ac)(b:ac):Option Int:=
  (dH a1).bind fun r=>
  (if(!(!r))then((dH b).bind fun r1=>
  some (!r1))else some true).bind fun t=>
  if t then
  (some (120:Int))
  else
  (if((decide ((1:Int)<a1.Kind))||(decide ((1:Int)<b.Kind)))then
  (some (2:Int))
  else
  (some (0:Int)))

def iQ(a1:ac):Option (ac×Int):=
  (pN a1 a1).bind fun r=>
  if((r !=(0:Int))||(a1.Kind==(0:Int)))then
  (some ((⟨(0:Int),(0:Int),(0:Int),[]⟩:ac),r))
  else
  ((kh (a1.N==(0:Int))).bind fun r1=>
  some (r1,(0:Int)))

def sl(a1:ac)(b:ac):Option (ac×Int):=
  (pN a1 b).bind fun r=>
  (kh false).bind fun r1=>
  if(r !=(0:Int))then
  (some ((⟨(0:Int),(0:Int),(0:Int),[]⟩:ac),r))
  else
  (if((decide (a1=r1))||(decide (b=r1)))then
  (some (r1,(0:Int)))
  else
  (if((a1.Kind==(0:Int))||(b.Kind==(0:Int)))then
  (some ((⟨(0:Int),(0:Int),(0:Int),[]⟩:ac),(0:Int)))
  else
  ((kh true).bind fun r2=>
  some (r2,(0:Int)))))

def xg(a1:ac)(b:ac):Option (ac×Int):=
  (pN a1 b).bind fun r=>
  if(r !=(0:Int))then
  (some ((⟨(0:Int),(0:Int),(0:Int),[]⟩:ac),r))
  else
  ((iQ a1).bind fun r1=>
  (iQ b).bind fun r2=>
  (sl r1.1 r2.1).bind fun r3=>
  (iQ r3.1).bind fun r4=>
  some (r4.1,r4.2))

def sX(a1:ac)(b:ac):Option Int:=
  (dH a1).bind fun r=>
  (if(!(!r))then((dH b).bind fun r1=>
  some (!r1))else some true).bind fun t=>
  if t then
  (some (120:Int))
  else
  ((md a1).bind fun r2=>
  (if(!(!r2))then((md b).bind fun r3=>
  some (!r3))else some true).bind fun t1=>
  if(t1||(((a1.Kind !=(0:Int))&&(b.Kind !=(0:Int)))&&(a1.Kind !=b.Kind)))then
  (some (2:Int))
  else
  (some (0:Int)))

def lL(a1:ac)(b:ac):Nat→Int→Option Int
  |0,_=>none
  |n+1,i=>
    if((decide (i<(a1.S.length:Int)))&&(decide (i<(b.S.length:Int))))then
    ((PD a1.S i).bind fun b1=>
    (PD b.S i).bind fun b2=>
    if(b1 !=b2)then
    ((PD a1.S i).bind fun b3=>
    (PD b.S i).bind fun b4=>
    if(decide (b3<b4))then
    (some (-1:Int))
    else
    (some (1:Int)))
    else
    ((lL a1 b n) (IntKind.i64.wrap (i+(1:Int)))))
    else
    (if((a1.S.length:Int) !=(b.S.length:Int))then
    (if(decide ((a1.S.length:Int)<(b.S.length:Int)))then
    (some (-1:Int))
    else
    (some (1:Int)))
    else
    (some (0:Int)))

def oG(a1:ac)(b:ac):Option Int:=
  (md a1).bind fun r=>
  (if(!(!r))then((md b).bind fun r1=>
  some (!r1))else some true).bind fun t=>
  if t then
  (some (0:Int))
  else
  (if(a1.Kind !=b.Kind)then
  (if(decide (a1.Kind<b.Kind))then
  (some (-1:Int))
  else
  (some (1:Int)))
  else
  (if(a1.N !=b.N)then
  (if(decide (a1.N<b.N))then
  (some (-1:Int))
  else
  (some (1:Int)))
  else
  (lL a1 b im (0:Int))))

def q6(a1:ac)(b:ac):Option (ac×Int):=
  (sX a1 b).bind fun r=>
  if(((r !=(0:Int))||(a1.Kind==(0:Int)))||(b.Kind==(0:Int)))then
  (some ((⟨(0:Int),(0:Int),(0:Int),[]⟩:ac),r))
  else
  ((oG a1 b).bind fun r1=>
  (kh (r1==(0:Int))).bind fun r2=>
  some (r2,(0:Int)))

def mz(a1:ac)(b:ac):Option (ac×Int):=
  (sX a1 b).bind fun r=>
  if(((r !=(0:Int))||(a1.Kind==(0:Int)))||(b.Kind==(0:Int)))then
  (some ((⟨(0:Int),(0:Int),(0:Int),[]⟩:ac),r))
  else
  ((oG a1 b).bind fun r1=>
  (kh (decide (r1<(0:Int)))).bind fun r2=>
  some (r2,(0:Int)))

def Er(tag:Int)(a1:ac)(b:ac):Option (ac×Int):=
  if(tag==(16:Int))then
  ((q6 a1 b).bind fun r=>
  some (r.1,r.2))
  else
  (if(tag==(18:Int))then
  ((mz a1 b).bind fun r1=>
  some (r1.1,r1.2))
  else
  (if(tag==(20:Int))then
  ((mz b a1).bind fun r2=>
  some (r2.1,r2.2))
  else
  (if(tag==(17:Int))then
  ((q6 a1 b).bind fun r3=>
  (iQ r3.1).bind fun r4=>
  some (r4.1,r3.2))
  else
  (if(tag==(19:Int))then
  ((mz b a1).bind fun r5=>
  (iQ r5.1).bind fun r6=>
  some (r6.1,r5.2))
  else
  ((mz a1 b).bind fun r7=>
  (iQ r7.1).bind fun r8=>
  some (r8.1,r7.2))))))

def Ep(tag:Int)(a1:ac)(b:ac):Option (ac×Int):=
  if(tag==(4:Int))then
  ((jZ (0:Int)).bind fun r=>
  (iH (45:Int) r a1).bind fun r1=>
  some (r1.1,r1.2))
  else
  (if(tag==(12:Int))then
  ((iH (43:Int) a1 b).bind fun r2=>
  some (r2.1,r2.2))
  else
  (if(tag==(13:Int))then
  ((iH (45:Int) a1 b).bind fun r3=>
  some (r3.1,r3.2))
  else
  (if(tag==(14:Int))then
  ((iH (42:Int) a1 b).bind fun r4=>
  some (r4.1,r4.2))
  else
  (if(tag==(15:Int))then
  ((iH (47:Int) a1 b).bind fun r5=>
  some (r5.1,r5.2))
  else
  (if(tag==(5:Int))then
  ((iQ a1).bind fun r6=>
  some (r6.1,r6.2))
  else
  (if(tag==(22:Int))then
  ((sl a1 b).bind fun r7=>
  some (r7.1,r7.2))
  else
  (if(tag==(23:Int))then
  ((xg a1 b).bind fun r8=>
  some (r8.1,r8.2))
  else
  (if(tag==(6:Int))then
  ((kh (a1.Kind==(0:Int))).bind fun r9=>
  some (r9,(0:Int)))
  else
  (if(tag==(7:Int))then
  ((kh (a1.Kind !=(0:Int))).bind fun r10=>
  some (r10,(0:Int)))
  else
  ((Er tag a1 b).bind fun r11=>
  some (r11.1,r11.2)))))))))))

def qN(nx1:(List ac)→ac→Option (ac×Int))(e2:bm)(own:List ac)(x1:ac)(e5:ac)(b4:ac):Option (ac×Int):=
  (Ep e2.Tag e5 b4).bind fun r2=>
  if(r2.2==(140:Int))then
  (some ((⟨(0:Int),(0:Int),(0:Int),[]⟩:ac),r2.2))
  else
  (if(r2.2 !=(0:Int))then
  (some ((⟨(0:Int),(0:Int),(0:Int),[]⟩:ac),(201:Int)))
  else
  ((app own ([r2.1])).bind fun own3=>
  nx1 own3 x1))

def db(r:(List ac)):List bm→(List ac)→ac→Option (ac×Int)
  |[],own,x1=>
    (cR own (IntKind.i64.wrap ((own.length:Int)-(1:Int)))).bind fun e3=>
    some (e3,(0:Int))
  |e2::tl1,own,x1=>
    if(e2.Tag==(1:Int))then
    ((app own ([e2.Value])).bind fun own1=>
    (db r tl1) own1 x1)
    else
    (if(e2.Tag==(2:Int))then
    ((cR r e2.Col).bind fun e4=>
    (app own ([e4])).bind fun own2=>
    (db r tl1) own2 x1)
    else
    ((cR own e2.L).bind fun e5=>
    if(decide ((0:Int)≤e2.R))then
    ((cR own e2.R).bind fun e6=>
    qN (db r tl1) e2 own x1 e5 e6)
    else
    (qN (db r tl1) e2 own x1 e5 (⟨(0:Int),(0:Int),(0:Int),[]⟩:ac))))

def qM(e:bK)(r:(List ac)):List bm→ac→Option (ac×Int)
  |[],x=>
    db r e.Nodes ([]:List ac) x
  |e1::tl,x=>
    (if(e1.Tag==(2:Int))then((if(!(decide ((r.length:Int)≤e1.Col)))then((cR r e1.Col).bind fun e7=>
    (md e7).bind fun r3=>
    some (!r3))else some true).bind fun t1=>
    some t1)else some false).bind fun t=>
    if t then
    (some ((⟨(0:Int),(0:Int),(0:Int),[]⟩:ac),(2:Int)))
    else
    ((qM e r tl) x)

def zD(e:bK)(r:(List ac)):Option (ac×Int):=
 (tU e).bind fun r1=>
 if(!r1)then
 (some ((⟨(0:Int),(0:Int),(0:Int),[]⟩:ac),(200:Int)))
 else
 (qM e r e.Nodes (⟨(0:Int),(0:Int),(0:Int),[]⟩:ac))

def qZ(v:ac):Option Bool:=
 (dH v).bind fun r=>
 some (r&&((v.Kind==(0:Int))||(v.Kind==(4:Int))))

def xZ(a1:eF):Option (ac×Int):=
 (vK a1).bind fun r=>
 if(!r.2.2)then
 (some ((⟨(0:Int),(0:Int),(0:Int),[]⟩:ac),(140:Int)))
 else
 (some ((⟨(4:Int),r.1,r.2.1,[]⟩:ac),(0:Int)))

def sk(s:ac)(v:ac):Option (ac×Int):=
  (dH s).bind fun r=>
  (if(!(!r))then((dH v).bind fun r1=>
  some (!r1))else some true).bind fun t=>
  if t then
  (some ((⟨(0:Int),(0:Int),(0:Int),[]⟩:ac),(120:Int)))
  else
  ((qZ s).bind fun r2=>
  (if(!(!r2))then((o6 v).bind fun r3=>
  some (!r3))else some true).bind fun t1=>
  if t1 then
  (some ((⟨(0:Int),(0:Int),(0:Int),[]⟩:ac),(2:Int)))
  else
  (if(v.Kind==(0:Int))then
  (some (s,(0:Int)))
  else
  (if(s.Kind==(0:Int))then
  ((fG v.N).bind fun r4=>
  (xZ r4).bind fun r5=>
  some (r5.1,r5.2))
  else
  ((q5 s.N s.U).bind fun r6=>
  (fG v.N).bind fun r7=>
  (my r6 r7).bind fun r8=>
  (xZ r8).bind fun r9=>
  some (r9.1,r9.2)))))

def uW(s:ac):Option (ac×Int):=
  (dH s).bind fun r=>
  if(!r)then
  (some ((⟨(0:Int),(0:Int),(0:Int),[]⟩:ac),(120:Int)))
  else
  ((qZ s).bind fun r1=>
  if(!r1)then
  (some ((⟨(0:Int),(0:Int),(0:Int),[]⟩:ac),(2:Int)))
  else
  (if(s.Kind==(0:Int))then
  (some (s,(0:Int)))
  else
  ((q5 s.N s.U).bind fun r2=>
  (iA r2).bind fun r3=>
  if(!r3.2)then
  (some ((⟨(0:Int),(0:Int),(0:Int),[]⟩:ac),(140:Int)))
  else
  ((jZ r3.1).bind fun r4=>
  some (r4,(0:Int))))))

def gH(nx:Int→Int→ac→ac→ac→Option (ac×Int))(n1:Int)(fault1:Int)(x1:ac)(sum1:ac)(best1:ac):Option (ac×Int):=
 nx n1 fault1 x1 sum1 best1

def mv(a1:gM)(nx:Int→Int→ac→ac→ac→Option (ac×Int))(n:Int)(fault:Int)(x:ac)(best:ac)(r3:ac×Int)(sum2:ac):Option (ac×Int):=
  (if(!((IntKind.i64.wrap (n+(1:Int)))==(1:Int)))then((if(a1.Tag==(4:Int))then((pj r3.1 best).bind fun r4=>
  some (decide (r4<(0:Int))))else some false).bind fun t1=>
  some t1)else some true).bind fun t=>
  (if(!t)then((if(a1.Tag==(5:Int))then((pj r3.1 best).bind fun r5=>
  some (decide ((0:Int)<r5)))else some false).bind fun t3=>
  some t3)else some true).bind fun t2=>
  if t2 then
  (gH nx (IntKind.i64.wrap (n+(1:Int))) fault x sum2 r3.1)
  else
  (gH nx (IntKind.i64.wrap (n+(1:Int))) fault x sum2 best)

def fP(a1:gM):List (List ac)→Int→Int→ac→ac→ac→Option (ac×Int)
  |[],n,fault,x,sum,best=>
    if(fault !=(0:Int))then
    (some ((⟨(0:Int),(0:Int),(0:Int),[]⟩:ac),fault))
    else
    (if(a1.Tag==(2:Int))then
    ((jZ n).bind fun r1=>
    some (r1,(0:Int)))
    else
    (if(a1.Tag==(3:Int))then
    ((uW sum).bind fun r2=>
    some (r2.1,r2.2))
    else
    (some (best,(0:Int)))))
  |e::tl,n,fault,x,sum,best=>
    (zD a1.Arg e).bind fun r3=>
    if(r3.2==(140:Int))then
    (gH (fP a1 tl) n r3.2 x sum best)
    else
    (if((r3.2 !=(0:Int))||(((a1.Tag==(3:Int))&&(r3.1.Kind !=(0:Int)))&&(r3.1.Kind !=(2:Int))))then
    (some ((⟨(0:Int),(0:Int),(0:Int),[]⟩:ac),(2:Int)))
    else
    (if(r3.1.Kind==(0:Int))then
    (gH (fP a1 tl) n fault x sum best)
    else
    (if(a1.Tag==(3:Int))then
    ((sk sum r3.1).bind fun r6=>
    mv a1 (fP a1 tl) n fault x best r3 r6.1)
    else
    (mv a1 (fP a1 tl) n fault x best r3 sum))))

def rp(a1:gM)(l:(List (List ac))):Option (ac×Int):=
  if(a1.Tag==(1:Int))then
  ((jZ (l.length:Int)).bind fun r=>
  some (r,(0:Int)))
  else
  (fP a1 l (0:Int) (0:Int) (⟨(0:Int),(0:Int),(0:Int),[]⟩:ac) (⟨(0:Int),(0:Int),(0:Int),[]⟩:ac) (⟨(0:Int),(0:Int),(0:Int),[]⟩:ac))

def uv(r:(List ac)):List Int→(List ac)→Option (List ac)
 |[],out=>
  some out
 |e::tl,out=>
  (cR r e).bind fun e1=>
  (app out ([e1])).bind fun out1=>
  (uv r tl) out1

def jz:List ak→(List Int)→Option (List Int)
  |[],out=>
    (zt out).bind fun rC=>
    (hZ rC).bind fun r1=>
    some r1
  |e::tl,out=>
    if(e.Op==(1:Int))then
    ((app out ([e.Table])).bind fun out1=>
    (jz tl) out1)
    else
    ((jz tl) out)

def sa(l:bE):Option (List Int):=
 (pn l).bind fun r=>
 if(r.2 !=(0:Int))then
 (some ([]:List Int))
 else
 (jz l.Nodes ([]:List Int))

def bX(s2:(List (List ac)))(eq:((List ac)→(List ac)→Option Bool)):List (List ac)→Nat→Option Bool
 |[],i=>
  some true
 |e::tl,i=>
  (cR s2 (i:Int)).bind fun e1=>
  (eq e e1).bind fun r=>
  if(!r)then
  (some false)
  else
  ((bX s2 eq tl) (i+1))

def dY(s1:(List (List ac)))(s2:(List (List ac)))(eq:((List ac)→(List ac)→Option Bool)):Option Bool:=
 if((s1.length:Int) !=(s2.length:Int))then
 (some false)
 else
 (bX s2 eq s1 0)

def Ax(a1:(List (List ac)))(b:(List (List ac))):Option Bool:=
 (dY a1 b nc).bind fun r=>
 some r

def la(nx1:Nat→cB→Option Bool)(i1:Nat)(other1:cB):Option Bool:=
 nx1 (i1+1) other1

def jk(nx1:Nat→cB→Option Bool)(i1:Nat)(e1:(List (List ac)))(other:cB)(k:Int):Option Bool:=
 (dj e1 k (e1.length:Int)).bind fun y=>
 (app ([]:List (List ac)) y).bind fun l6=>
 (dj e1 0 k).bind fun y1=>
 (app l6 y1).bind fun sJ=>
 (app other.Tables ([sJ])).bind fun l8=>
 la nx1 i1 ({other with Tables:=l8}:cB)

def co(l:bE)(n:Int)(r3:(List (List ac))×Int)(scans:List (Int×Bool)):List (List (List ac))→Nat→cB→Option Bool
  |[],i1,other=>
    (jo l other).bind fun r5=>
    (if(r3.2==r5.2)then((Ax r3.1 r5.1).bind fun r6=>
    some r6)else some false).bind fun t1=>
    some t1
  |e1::tl1,i1,other=>
    if(!((kD scans (i1:Int)).getD false))then
    ((app other.Tables ([[]])).bind fun l4=>
    la (co l n r3 scans tl1) i1 ({other with Tables:=l4}:cB))
    else
    (if(decide ((0:Int)<(e1.length:Int)))then
    ((nz (e1.length:Int)).bind fun _=>
    jk (co l n r3 scans tl1) i1 e1 other (((max n (0:Int))).tmod (e1.length:Int)))
    else
    (jk (co l n r3 scans tl1) i1 e1 other (0:Int)))

def jj(l:bE)(b:cB)(n:Int)(r3:(List (List ac))×Int):List Int→(List (Int×Bool))→Option Bool
 |[],scans=>
  co l n r3 scans b.Tables 0 ({(⟨[]⟩:cB)with Tables:=([]:List (List (List ac)))}:cB)
 |e::tl,scans=>
  (jj l b n r3 tl) (cY scans e true)

def nv(l:bE)(b:cB)(n:Int):Option Bool:=
  (tZ).bind fun r=>
  if(!r)then
  (some false)
  else
  ((pT b).bind fun r1=>
  (if(!r1)then((vO l b).bind fun r2=>
  some r2)else some true).bind fun t=>
  if t then
  (some true)
  else
  ((jo l b).bind fun r3=>
  if((r3.2==(250:Int))||(r3.2==(230:Int)))then
  (some ((r3.1.length:Int)==(0:Int)))
  else
  ((sa l).bind fun r4=>
  jj l b n r3 r4 ([]:List (Int×Bool)))))

end Go.Proofs.YtfhhakidodmdfaaGreatDoor

