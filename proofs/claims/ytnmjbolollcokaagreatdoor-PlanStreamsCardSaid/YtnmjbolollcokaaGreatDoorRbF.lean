/- cJ of this claim: F. -/
import Derived.Test.YtnmjbolollcokaaGreatDoorRbD
import Derived.Test.YtnmjbolollcokaaGreatDoorRbV4
import Derived.Lib.MapU
set_option linter.all false
namespace Go.Proofs.YtnmjbolollcokaaGreatDoor
open Go

def fi(f:(Int→Option Bool)):List Int→Nat→Option Int
 |[],i=>
  some (-1:Int)
 |e::tl,i=>
  (f e).bind fun r=>
  if r then
  (some (i:Int))
  else
  ((fi f tl) (i+1))

def jK(s:(List Int))(f:(Int→Option Bool)):Option Int:=
 fi f s 0

def fj(s:(List Int))(f:(Int→Option Bool)):Option Bool:=
 (jK s f).bind fun r=>
 some (decide ((0:Int)≤r))

def ut(k:Int):Option Bool:=
 some (((k==(1:Int))||(k==(2:Int)))||(k==(3:Int)))

def jg(k:Int):Option Bool:=
 (ut k).bind fun r=>
 some (!r)

def hT(c:aB)(n:ai):Option ((List Int)×Bool):=
  (if((((decide ((0:Int)≤n.Table))&&(decide (n.Table<(4:Int))))&&(decide ((1:Int)≤(n.Kinds.length:Int))))&&(decide ((n.Kinds.length:Int)≤(4:Int))))then((fj n.Kinds jg).bind fun r=>
  some (!r))else some false).bind fun t=>
  some (n.Kinds,t)

def gZ(s:List Int):Option (List Int):=
 some s

def kA(n:Int):Option (List Int):=
  if(decide ((0:Int)<(IntKind.i64.wrap (n-(IntKind.i64.wrap ((0:Int)-(0:Int)))))))then
  ((Mi (IntKind.i64.wrap (n-(IntKind.i64.wrap ((0:Int)-(0:Int)))))).bind fun _=>
  (tn (IntKind.i64.wrap (n-(IntKind.i64.wrap ((0:Int)-(0:Int))))) (0:Int)).bind fun mk=>
  (du mk 0 (0:Int)).bind fun y=>
  gZ y)
  else
  (gZ ([]:List Int))

def mf(n:Int):Option (List Int):=
 if(decide (n<(0:Int)))then
 (none)
 else
 (kA n)

def gm:List (List Int)→(List Int)→Option (List Int)
 |[],newslice=>
  some newslice
 |e1::tl1,newslice=>
  (kr newslice e1).bind fun newslice1=>
  (gm tl1) newslice1

def gn(slices:(List (List Int))):List (List Int)→Int→Option (List Int)
 |[],size=>
  (mf size).bind fun r=>
  gm slices r
 |e::tl,size=>
  if(decide ((IntKind.i64.wrap (size+(e.length:Int)))<(0:Int)))then
  (none)
  else
  ((gn slices tl) (IntKind.i64.wrap (size+(e.length:Int))))

def iF(slices:(List (List Int))):Option (List Int):=
 gn slices slices (0:Int)

def rU(tag:Int):Option Int:=
  if((tag==(1:Int))||(tag==(2:Int)))then
  (some (0:Int))
  else
  (if((decide ((4:Int)≤tag))&&(decide (tag≤(7:Int))))then
  (some (1:Int))
  else
  (if((decide ((12:Int)≤tag))&&(decide (tag≤(23:Int))))then
  (some (2:Int))
  else
  (some (-1:Int))))

def gH(v1:de):Option de:=
 some v1

def mD(v2:de):Option de:=
 gH (de.mk (0:Int) v2.N v2.U v2.S)

def mC(v:de):Option de:=
 mD (de.mk v.Kind (0:Int) v.U v.S)

def mB(v3:de):Option de:=
 gH v3

def ue(v:de):Option de:=
  if(v.Kind==(1:Int))then
  (if((v.N !=(0:Int))&&(v.N !=(1:Int)))then
  (gH v)
  else
  (mC v))
  else
  (if(v.Kind==(2:Int))then
  (mC v)
  else
  (if(v.Kind==(0:Int))then
  (mD v)
  else
  (if(v.Kind==(3:Int))then
  (if(decide ((v.S.length:Int)≤(40:Int)))then
  (mB (de.mk (0:Int) v.N v.U ([])))
  else
  (mB v))
  else
  (if(v.Kind==(4:Int))then
  (gH (de.mk (0:Int) (0:Int) (0:Int) v.S))
  else
  (gH v)))))

def ug(v:de):Option Int:=
 (ue v).bind fun r=>
 if(!decide (r=(⟨(0:Int),(0:Int),(0:Int),[]⟩:de)))then
 (some (120:Int))
 else
 (some (0:Int))

def uf(v:de):Option Bool:=
 (ug v).bind fun r=>
 some ((r==(0:Int))&&(v.Kind !=(4:Int)))

def uB(n:bT):Option Bool:=
  if(n.Tag==(1:Int))then
  ((uf n.Value).bind fun r=>
  some (r&&(n.Col==(0:Int))))
  else
  (if(n.Tag==(2:Int))then
  (some (((decide (n.Value=(⟨(0:Int),(0:Int),(0:Int),[]⟩:de)))&&(decide ((0:Int)≤n.Col)))&&(decide (n.Col<(16:Int)))))
  else
  (some ((decide (n.Value=(⟨(0:Int),(0:Int),(0:Int),[]⟩:de)))&&(n.Col==(0:Int)))))

def mW(nx:Nat→(List Int)→(List Int)→Option ((List Int)×Bool))(i:Nat)(e1:bT)(all:List Int)(open1:List Int)(r:Int):List Int→Nat→Int→(List Int)→Option ((List Int)×Bool)
  |[],i1,first,at1=>
    if(!decide (at1=([e1.L,e1.R])))then
    (some ([],false))
    else
    ((kr all ([first])).bind fun all1=>
    (du open1 0 (IntKind.i64.wrap ((open1.length:Int)-r))).bind fun y1=>
    (kr y1 ([(i:Int)])).bind fun open2=>
    nx (i+1) all1 open2)
  |e2::tl1,i1,first,at1=>
    (eG all e2).bind fun e3=>
    (eG at1 (i1:Int)).bind fun e4=>
    (some (at1.set (i1:Int).toNat e2)).bind fun ar=>
    (mW nx i e1 all open1 r tl1) (i1+1) (min first e3) ar

def kK:List bT→Nat→(List Int)→(List Int)→Option ((List Int)×Bool)
  |[],i,all,open1=>
    some (all,(((open1.length:Int)==(1:Int))&&(decide ((all.length:Int)≤(1000:Int)))))
  |e1::tl,i,all,open1=>
    (rU e1.Tag).bind fun r=>
    (if(!((decide (r<(0:Int)))||(decide ((open1.length:Int)<r))))then((uB e1).bind fun r1=>
    some (!r1))else some true).bind fun t=>
    if t then
    (some ([],false))
    else
    ((du open1 (IntKind.i64.wrap ((open1.length:Int)-r)) (open1.length:Int)).bind fun y=>
    mW (kK tl) i e1 all open1 r y 0 (i:Int) ([(-1:Int),(-1:Int)]))

def qt(e:bw):Option ((List Int)×Bool):=
 kK e.Nodes 0 ([]:List Int) ([]:List Int)

def mX(e:bw):Option Int:=
 (qt e).bind fun r=>
 if(!r.2)then
 (some (200:Int))
 else
 (some (0:Int))

def em(i:Nat)(y:List Int):Nat→Nat→(List Int)→Int→Option (List Int)
  |0,i1,s1,k=>
    (du s1 k (s1.length:Int)).bind fun y1=>
    (some (s1.take k.toNat++List.replicate y1.length (0:Int))).bind fun cl=>
    (du cl 0 k).bind fun y2=>
    some y2
  |k2+1,i1,s1,k=>
    (DP s1 (i:Int) y.length (i1:Int)).bind fun e3=>
    (DP s1 (i:Int) y.length (IntKind.i64.wrap ((i1:Int)-(1:Int)))).bind fun e4=>
    if(e3 !=e4)then
    ((DP s1 (i:Int) y.length (i1:Int)).bind fun e5=>
    (eG s1 k).bind fun e6=>
    (some (s1.set k.toNat e5)).bind fun st=>
    (em i y k2) (i1+1) st (IntKind.i64.wrap (k+(1:Int))))
    else
    ((em i y k2) (i1+1) s1 k)

def fR(s:(List Int)):List Int→Nat→Option (List Int)
  |[],i=>
    some s
  |e::tl,i=>
    (eG s (IntKind.i64.wrap ((i:Int)-(1:Int)))).bind fun e1=>
    if(e==e1)then
    ((du s (i:Int) (s.length:Int)).bind fun y=>
    em i y (y.length-1) 1 s (i:Int))
    else
    ((fR s tl) (i+1))

def kB(s:(List Int)):Option (List Int):=
 if(decide ((s.length:Int)<(2:Int)))then
 (some s)
 else
 (fR s (s.drop (1)) 1)

def mo:List bT→(List Int)→Option (List Int)
  |[],out=>
    (yC out).bind fun Ke=>
    (kB Ke).bind fun r1=>
    some r1
  |e1::tl,out=>
    if(e1.Tag==(2:Int))then
    ((kr out ([e1.Col])).bind fun out1=>
    (mo tl) out1)
    else
    ((mo tl) out)

def xS(e:bw):Option (List Int):=
 (mX e).bind fun r=>
 if(r !=(0:Int))then
 (some ([]:List Int))
 else
 (mo e.Nodes ([]:List Int))

def bZ(s:(List Int)):Option (List Int):=
 (kr ([]:List Int) s).bind fun x=>
 some x

def pz(stack:(List Int))(k:Int):Option ((List Int)×(List Int)):=
 (du stack (IntKind.i64.wrap ((stack.length:Int)-k)) (stack.length:Int)).bind fun y=>
 (bZ y).bind fun r=>
 (du stack 0 (IntKind.i64.wrap ((stack.length:Int)-k))).bind fun y1=>
 some (r,y1)

def ll(bad:Int)(stack:List Int):Option (Int×Int):=
  if(bad !=(0:Int))then
  (some ((0:Int),bad))
  else
  ((eG stack (0:Int)).bind fun e1=>
  some (e1,(0:Int)))

def lk(do1:(bT→(List Int)→Option (Int×Int))):List bT→Int→(List Int)→Option (Int×Int)
  |[],bad1,stack1=>
    ll bad1 stack1
  |e2::tl,bad1,stack1=>
    (rU e2.Tag).bind fun r=>
    (pz stack1 r).bind fun r1=>
    (do1 e2 r1.1).bind fun r2=>
    if(r2.2 !=(0:Int))then
    (ll r2.2 r1.2)
    else
    ((kr r1.2 ([r2.1])).bind fun l2=>
    (lk do1 tl) bad1 l2)

def rm(e:bw)(do1:(bT→(List Int)→Option (Int×Int))):Option (Int×Int):=
 lk do1 e.Nodes (0:Int) ([]:List Int)

def l9(tag:Int):Option Bool:=
 some ((tag==(4:Int))||((decide ((12:Int)≤tag))&&(decide (tag≤(15:Int)))))

def jk(kinds:(List Int))(n:bT):List Int→Int→Option (Int×Int)
  |[],own=>
    if(n.Tag==(1:Int))then
    (some (n.Value.Kind,(0:Int)))
    else
    (if(n.Tag==(2:Int))then
    ((eG kinds n.Col).bind fun e1=>
    some (e1,(0:Int)))
    else
    ((l9 n.Tag).bind fun r=>
    if r then
    (if((own==(-1:Int))||((own !=(0:Int))&&(own !=(2:Int))))then
    (some ((0:Int),(201:Int)))
    else
    (some ((2:Int),(0:Int))))
    else
    (if(((n.Tag==(5:Int))||(n.Tag==(22:Int)))||(n.Tag==(23:Int)))then
    (if((own==(-1:Int))||((own !=(0:Int))&&(own !=(1:Int))))then
    (some ((0:Int),(201:Int)))
    else
    (some ((1:Int),(0:Int))))
    else
    (if((own==(-1:Int))||((own !=(0:Int))&&(own !=own)))then
    (some ((0:Int),(201:Int)))
    else
    (some ((1:Int),(0:Int)))))))
  |e::tl,own=>
    if((e==(0:Int))||(e==own))then
    ((jk kinds n tl) own)
    else
    (if(own==(0:Int))then
    ((jk kinds n tl) e)
    else
    ((jk kinds n tl) (-1:Int)))

def qu(kinds:(List Int))(n:bT)(l:(List Int)):Option (Int×Int):=
 jk kinds n l (0:Int)

def pk(e:bw)(kinds:(List Int)):List Int→Option (Int×Int)
 |[]=>
  (rm e (qu kinds)).bind fun r2=>
  some (r2.1,r2.2)
 |e2::tl1=>
  if(decide ((kinds.length:Int)≤e2))then
  (some ((0:Int),(2:Int)))
  else
  ((pk e kinds tl1))

def pl(e:bw)(kinds:(List Int)):List Int→Option (Int×Int)
 |[]=>
  (xS e).bind fun r1=>
  pk e kinds r1
 |e1::tl=>
  if((decide (e1<(0:Int)))||(decide ((3:Int)<e1)))then
  (some ((0:Int),(2:Int)))
  else
  ((pl e kinds tl))

def qS(e:bw)(kinds:(List Int)):Option (Int×Int):=
 (mX e).bind fun r=>
 if(r !=(0:Int))then
 (some ((0:Int),r))
 else
 (pl e kinds kinds)

def qh(e:bw)(kinds:(List Int)):Option Bool:=
 (qS e kinds).bind fun r=>
 some ((r.2==(0:Int))&&((r.1==(1:Int))||(r.1==(0:Int))))

def hU(c:aB)(n:ai):Option ((List Int)×Bool):=
 (eG c.kinds n.A).bind fun e=>
 (eG c.kinds n.B).bind fun e1=>
 (iF ([e,e1])).bind fun r=>
 (qh n.Cond r).bind fun r1=>
 some (r,r1)

def ge(c:aB)(n:ai):Option ((List Int)×Bool):=
 (eG c.kinds n.A).bind fun e=>
 (qh n.Cond e).bind fun r=>
 some (e,r)

def mO(kinds:(List Int))(c:Int):Option Bool:=
 some ((decide (c<(0:Int)))||(decide ((kinds.length:Int)≤c)))

def sA(l:(List Int))(kinds:(List Int)):Option Bool:=
 (fj l (mO kinds)).bind fun r=>
 some (!r)

def o7(r:Int×Int)(x:Bool):Option (Int×Bool):=
 if x then
 (some (r.1,(r.2==(0:Int))))
 else
 (some ((0:Int),false))

def xL(a1:ko)(kinds:(List Int)):Option (Int×Bool):=
  if(a1.Tag==(1:Int))then
  (some ((2:Int),((a1.Arg.Nodes.length:Int)==(0:Int))))
  else
  ((qS a1.Arg kinds).bind fun r=>
  if(a1.Tag==(2:Int))then
  (some ((2:Int),(r.2==(0:Int))))
  else
  (if(a1.Tag==(3:Int))then
  (some ((2:Int),((r.2==(0:Int))&&((r.1==(2:Int))||(r.1==(0:Int))))))
  else
  (if(a1.Tag==(4:Int))then
  (o7 r (a1.Tag==(4:Int)))
  else
  (o7 r (a1.Tag==(5:Int))))))

def hX(e:(List Int)):List ko→(List Int)→Bool→Option ((List Int)×Bool)
 |[],out1,ok=>
  some (out1,ok)
 |e2::tl1,out1,ok=>
  (xL e2 e).bind fun r1=>
  (kr out1 ([r1.1])).bind fun out2=>
  (hX e tl1) out2 (ok&&r1.2)

def hY(n:ai)(e:(List Int))(t:Bool):List Int→(List Int)→Option ((List Int)×Bool)
 |[],out=>
  hX e n.Aggs out t
 |e1::tl,out=>
  (eG e e1).bind fun e3=>
  (kr out ([e3])).bind fun out3=>
  (hY n e t tl) out3

def gD(c:aB)(n:ai):Option ((List Int)×Bool):=
  (eG c.kinds n.A).bind fun e=>
  (if(((decide ((n.Keys.length:Int)≤(3:Int)))&&(decide ((n.Aggs.length:Int)≤(12:Int))))&&(decide ((0:Int)<(IntKind.i64.wrap ((n.Keys.length:Int)+(n.Aggs.length:Int))))))then((sA n.Keys e).bind fun r=>
  some r)else some false).bind fun t=>
  if(!t)then
  (some ([],false))
  else
  (hY n e t n.Keys ([]:List Int))

def gu(c:aB)(n:ai):List bw→(List Int)→Bool→Option ((List Int)×Bool)
 |[],out,ok=>
  some (out,ok)
 |e::tl,out,ok=>
  (eG c.kinds n.A).bind fun e1=>
  (qS e e1).bind fun r=>
  (kr out ([r.1])).bind fun out1=>
  (gu c n tl) out1 (ok&&(r.2==(0:Int)))

def fO(c:aB)(n:ai):Option ((List Int)×Bool):=
 gu c n n.Items ([]:List Int) ((decide ((1:Int)≤(n.Items.length:Int)))&&(decide ((n.Items.length:Int)≤(16:Int))))

def fm(c:aB)(n:ai):Option ((List Int)×Bool):=
 (eG c.kinds n.A).bind fun e=>
 some (e,true)

def hP(nx:Nat→(List Int)→Bool→Option ((List Int)×Bool))(i:Nat)(e2:Int)(ok:Bool)(out1:List Int):Option ((List Int)×Bool):=
  (if ok then((eG out1 (i:Int)).bind fun e3=>
  some ((e3==e2)||(e2==(0:Int))))else some false).bind fun t=>
  nx (i+1) out1 t

def eh:List Int→Nat→(List Int)→Bool→Option ((List Int)×Bool)
  |[],i,out,ok=>
    some (out,ok)
  |e2::tl,i,out,ok=>
    (eG out (i:Int)).bind fun e4=>
    if(e4==(0:Int))then
    ((some (out.set (i:Int).toNat e2)).bind fun st=>
    hP (eh tl) i e2 ok st)
    else
    (hP (eh tl) i e2 ok out)

def gB(c:aB)(n:ai):Option ((List Int)×Bool):=
  (eG c.kinds n.A).bind fun e=>
  (eG c.kinds n.B).bind fun e1=>
  if((e.length:Int) !=(e1.length:Int))then
  (some ([],false))
  else
  ((bZ e).bind fun r=>
  eh e1 0 r true)

def iM(in1:(List Int))(o:jD):Option Bool:=
 some ((decide (o.Col<(0:Int)))||(decide ((in1.length:Int)≤o.Col)))

def d3(f:(jD→Option Bool)):List jD→Nat→Option Int
 |[],i=>
  some (-1:Int)
 |e::tl,i=>
  (f e).bind fun r=>
  if r then
  (some (i:Int))
  else
  ((d3 f tl) (i+1))

def f6(s:(List jD))(f:(jD→Option Bool)):Option Int:=
 d3 f s 0

def ft(s:(List jD))(f:(jD→Option Bool)):Option Bool:=
 (f6 s f).bind fun r=>
 some (decide ((0:Int)≤r))

def gC(c:aB)(n:ai):Option ((List Int)×Bool):=
  (eG c.kinds n.A).bind fun e=>
  (if(decide ((n.Order.length:Int)≤(3:Int)))then((ft n.Order (iM e)).bind fun r=>
  some (!r))else some false).bind fun t=>
  some (e,(((t&&(decide ((-1:Int)≤n.Limit)))&&(decide (n.Limit≤(2147483647:Int))))&&((c.kinds.length:Int)==(IntKind.i64.wrap ((c.Logic.Nodes.length:Int)-(1:Int))))))

def wb(n:ai):Option Bool:=
 some (((((((((n.Table==(0:Int))&&((n.Kinds.length:Int)==(0:Int)))&&(!n.Left))&&((n.Cond.Nodes.length:Int)==(0:Int)))&&((n.Keys.length:Int)==(0:Int)))&&((n.Aggs.length:Int)==(0:Int)))&&((n.Items.length:Int)==(0:Int)))&&((n.Order.length:Int)==(0:Int)))&&(n.Limit==(0:Int)))

def wc(n:ai):Option ai:=
  if(n.Op==(1:Int))then
  (some (ai.mk n.Op n.A n.B (0:Int) ([]) n.Left n.Cond n.Keys n.Aggs n.Items n.Order n.Limit))
  else
  (if(n.Op==(2:Int))then
  (some (ai.mk n.Op n.A n.B n.Table n.Kinds false (⟨[]⟩:bw) n.Keys n.Aggs n.Items n.Order n.Limit))
  else
  (if(n.Op==(3:Int))then
  (some (ai.mk n.Op n.A n.B n.Table n.Kinds n.Left (⟨[]⟩:bw) n.Keys n.Aggs n.Items n.Order n.Limit))
  else
  (if(n.Op==(4:Int))then
  (some (ai.mk n.Op n.A n.B n.Table n.Kinds n.Left n.Cond ([]) ([]) n.Items n.Order n.Limit))
  else
  (if(n.Op==(5:Int))then
  (some (ai.mk n.Op n.A n.B n.Table n.Kinds n.Left n.Cond n.Keys n.Aggs ([]) n.Order n.Limit))
  else
  (if(n.Op==(8:Int))then
  (some (ai.mk n.Op n.A n.B n.Table n.Kinds n.Left n.Cond n.Keys n.Aggs n.Items ([]) (0:Int)))
  else
  (some n))))))

def mP(x:Bool):Option Int:=
 if x then
 (some (2:Int))
 else
 (some (1:Int))

def uu(op:Int):Option Int:=
  if(op==(1:Int))then
  (some (0:Int))
  else
  (if(op==(2:Int))then
  (mP (op==(2:Int)))
  else
  (mP (op==(7:Int))))

def mg(c:aB)(i:Int):Option (Int×Bool):=
  (eG c.Logic.Nodes i).bind fun e=>
  (uu e.Op).bind fun r=>
  if(r==(0:Int))then
  (some (i,((e.A==(-1:Int))&&(e.B==(-1:Int)))))
  else
  (if(r==(1:Int))then
  (if(((e.A !=(IntKind.i64.wrap (i-(1:Int))))||(e.B !=(-1:Int)))||(i==(0:Int)))then
  (some ((0:Int),false))
  else
  ((eG c.first e.A).bind fun e1=>
  some (e1,true)))
  else
  ((if(!((e.B !=(IntKind.i64.wrap (i-(1:Int))))||(i==(0:Int))))then((eG c.first e.B).bind fun e2=>
  some (e.A !=(IntKind.i64.wrap (e2-(1:Int)))))else some true).bind fun t=>
  if(t||(decide (e.A<(0:Int))))then
  (some ((0:Int),false))
  else
  ((eG c.first e.A).bind fun e3=>
  some (e3,true))))

def hZ{Sg:Type}(yld:(Int×Bool)→Sg→Option (Bool×Sg))(nx:Nat→Sg→aB→Option (Sg×aB))(i:Nat)(s1:Sg)(ok1:Bool)(kinds:(List Int))(ob2:aB):Option (Sg×aB):=
 (kr ob2.kinds ([kinds])).bind fun l6=>
 (yld ((i:Int),(ok1&&(decide ((kinds.length:Int)≤(16:Int))))) s1).bind fun r2=>
 if((!r2.1)||(!(ok1&&(decide ((kinds.length:Int)≤(16:Int))))))then
 (some (r2.2,({ob2 with kinds:=l6}:aB)))
 else
 (nx (i+1) r2.2 ({ob2 with kinds:=l6}:aB))

def ia{Sg:Type}(yld:(Int×Bool)→Sg→Option (Bool×Sg))(nx:Nat→Sg→aB→Option (Sg×aB))(i:Nat)(e2:ai)(s1:Sg)(ok:Bool)(ob1:aB):Option (Sg×aB):=
  if ok then
  ((((dB (cw (cw (cw (cw (cw (cw (cw (cw ([]:List (Int×(aB→ai→Option (((List Int)×Bool)×aB)))) (1:Int) (fun(mc:aB) (mx:ai)=>(hT mc mx).map fun mr=>(mr,mc))) (2:Int) (fun(mc:aB) (mx:ai)=>(hU mc mx).map fun mr=>(mr,mc))) (3:Int) (fun(mc:aB) (mx:ai)=>(ge mc mx).map fun mr=>(mr,mc))) (4:Int) (fun(mc:aB) (mx:ai)=>(gD mc mx).map fun mr=>(mr,mc))) (5:Int) (fun(mc:aB) (mx:ai)=>(fO mc mx).map fun mr=>(mr,mc))) (6:Int) (fun(mc:aB) (mx:ai)=>(fm mc mx).map fun mr=>(mr,mc))) (7:Int) (fun(mc:aB) (mx:ai)=>(gB mc mx).map fun mr=>(mr,mc))) (8:Int) (fun(mc:aB) (mx:ai)=>(gC mc mx).map fun mr=>(mr,mc))) e2.Op).getD (fun _ _=>none)) ob1 (e2)).bind fun r3=>
  hZ yld nx i s1 r3.1.2 r3.1.1 r3.2)
  else
  (hZ yld nx i s1 ok ([]) ob1)

def dO{Sg:Type}(yld:(Int×Bool)→Sg→Option (Bool×Sg)):List ai→Nat→Sg→aB→Option (Sg×aB)
  |[],i,s1,ob=>
    some (s1,ob)
  |e2::tl,i,s1,ob=>
    (if((dB (cw (cw (cw (cw (cw (cw (cw (cw ([]:List (Int×(aB→ai→Option (((List Int)×Bool)×aB)))) (1:Int) (fun(mc:aB) (mx:ai)=>(hT mc mx).map fun mr=>(mr,mc))) (2:Int) (fun(mc:aB) (mx:ai)=>(hU mc mx).map fun mr=>(mr,mc))) (3:Int) (fun(mc:aB) (mx:ai)=>(ge mc mx).map fun mr=>(mr,mc))) (4:Int) (fun(mc:aB) (mx:ai)=>(gD mc mx).map fun mr=>(mr,mc))) (5:Int) (fun(mc:aB) (mx:ai)=>(fO mc mx).map fun mr=>(mr,mc))) (6:Int) (fun(mc:aB) (mx:ai)=>(fm mc mx).map fun mr=>(mr,mc))) (7:Int) (fun(mc:aB) (mx:ai)=>(gB mc mx).map fun mr=>(mr,mc))) (8:Int) (fun(mc:aB) (mx:ai)=>(gC mc mx).map fun mr=>(mr,mc))) e2.Op).isSome)then((wc e2).bind fun r=>
    (wb r).bind fun r1=>
    some r1)else some false).bind fun t=>
    if t then
    ((mg ob (i:Int)).bind fun r4=>
    (kr ob.first ([r4.1])).bind fun l7=>
    ia yld (dO yld tl) i e2 s1 r4.2 ({ob with first:=l7}:aB))
    else
    (ia yld (dO yld tl) i e2 s1 t ob)

def jI{Sg:Type}(c:aB)(yld:(Int×Bool)→Sg→Option (Bool×Sg))(s:Sg):Option (Sg×aB):=
 dO yld c.Logic.Nodes 0 s c

def ny(c:aB):Option (Da (Int×Bool) aB):=
 some (fun _=>jI c)

def rl(x:Int×Bool)(x1:Bool)(x2:Int)(p:Bool):Option (Option Nat×(Bool×Int×Bool)):=
 if(!x.2)then
 (some (some 0,(false,x.1,true)))
 else
 (some (none,(x1,x2,p)))

def o6(l:cF):Option (aB×Int×Bool):=
  if((decide ((l.Nodes.length:Int)<(1:Int)))||(decide ((60:Int)<(l.Nodes.length:Int))))then
  (some ((⟨l,[],[]⟩:aB),(0:Int),false))
  else
  ((ny (⟨l,[],[]⟩:aB)).bind fun it=>
  (it (Option Nat×(Bool×Int×Bool)) (wt (fun x s=>rl x s.1 s.2.1 s.2.2)) (none,(false,(0:Int),false))).bind fun r=>
  if r.1.1.isNone then
  ((eG r.2.first (IntKind.i64.wrap ((l.Nodes.length:Int)-(1:Int)))).bind fun e=>
  some (r.2,(IntKind.i64.wrap ((l.Nodes.length:Int)-(1:Int))),(e==(0:Int))))
  else
  ((Mc r.1.2.2.2).bind fun _=>
  some (r.2,r.1.2.2.1,r.1.2.1)))

def uv(l:cF):Option ((List Int)×Int):=
  (o6 l).bind fun r=>
  if(!r.2.2)then
  (some ([],(230:Int)))
  else
  ((eG r.1.kinds r.2.1).bind fun e=>
  (bZ e).bind fun r1=>
  some (r1,(0:Int)))

def uw(l:cF):Option (Int×Int):=
 (o6 l).bind fun r=>
 if(!r.2.2)then
 (some (r.2.1,(230:Int)))
 else
 (some ((0:Int),(0:Int)))

def tJ(c:Int):Option Bool:=
 some ((decide ((97:Int)≤c))&&(decide (c≤(122:Int))))

def eI(v:jn):List jn→Nat→Option Int
 |[],i=>
  some (-1:Int)
 |e::tl,i=>
  if(v==e)then
  (some (i:Int))
  else
  ((eI v tl) (i+1))

def i8(s:(List jn))(v:jn):Option Int:=
 eI v s 0

def gW(s:(List jn))(v:jn):Option Bool:=
 (i8 s v).bind fun r=>
 some (decide ((0:Int)≤r))

def we(s:jn):Option Bool:=
 (gW Md s).bind fun r=>
 some r

def lS(s:jn):Option jn:=if s.length<35184372088832 then some (Lib.toUpperD s)else none

def xM(c:Int):Option Bool:=
 some ((decide ((48:Int)≤c))&&(decide (c≤(57:Int))))

def nX:List (Int×Int)→Option Bool
  |[]=>
    some true
  |e::tl=>
    (xM e.2).bind fun r3=>
    (if(!r3)then((tJ e.2).bind fun r4=>
    some (!r4))else some false).bind fun t2=>
    if(t2&&(e.2 !=(95:Int)))then
    (some false)
    else
    ((nX tl))

def o8(s:jn):Option Bool:=
  (if(!((s==([]))||(decide ((16:Int)<(s.length:Int)))))then((II s (0:Int)).bind fun b=>
  (tJ (IntKind.i32.wrap b)).bind fun r=>
  some (!r))else some true).bind fun t=>
  (if(!t)then((lS s).bind fun r1=>
  (we r1).bind fun r2=>
  some r2)else some true).bind fun t1=>
  if t1 then
  (some false)
  else
  (nX (EW s))

def dp(f:(bX→Option Bool)):List bX→Nat→Option Int
 |[],i=>
  some (-1:Int)
 |e::tl,i=>
  (f e).bind fun r=>
  if r then
  (some (i:Int))
  else
  ((dp f tl) (i+1))

def eJ(s:(List bX))(f:(bX→Option Bool)):Option Int:=
 dp f s 0

def fT(of:(bX→Option jn))(name:jn)(p:bX):Option Bool:=
 (of p).bind fun r=>
 some (r==name)

def kg(l:(List bX))(of:(bX→Option jn))(name:jn):Option (Int×Bool):=
 (eJ l (fT of name)).bind fun r=>
 some ((max r (0:Int)),decide ((0:Int)≤r))

def fL(l:(List bX))(of:(bX→Option jn)):List bX→Nat→Option Bool
  |[],i=>
    some true
  |e::tl,i=>
    (of e).bind fun r=>
    (kg l of r).bind fun r1=>
    (if(!(r1.1 !=(i:Int)))then((of e).bind fun r2=>
    (o8 r2).bind fun r3=>
    some (!r3))else some true).bind fun t=>
    if t then
    (some false)
    else
    ((fL l of tl) (i+1))

def kf(l:(List bX))(of:(bX→Option jn)):Option Bool:=
 fL l of l 0

def mZ(c:bX):Option jn:=
 some c.Name

def ma(kind:Int):Nat→Nat→Option jn
 |0,i=>
  some ([])
 |k1+1,i=>
  (eG LU (i:Int)).bind fun e1=>
  if(e1.kind==kind)then
  (some e1.word)
  else
  ((ma kind k1) (i+1))

def sX(kind:Int):Option jn:=
 ma kind 3 0

def iN(t:cc):List Int→Nat→Bool→Option Int
  |[],i1,ok1=>
    if(!ok1)then
    (some (211:Int))
    else
    (some (0:Int))
  |e1::tl1,i1,ok1=>
    (if((ok1&&(decide ((0:Int)≤e1)))&&(decide (e1<(t.Columns.length:Int))))then((if(!((i1:Int)==(0:Int)))then((eG t.Keys (IntKind.i64.wrap ((i1:Int)-(1:Int)))).bind fun e2=>
    some (decide (e2<e1)))else some true).bind fun t3=>
    some t3)else some false).bind fun t2=>
    (iN t tl1) (i1+1) t2

def iO(t:cc):List bX→Bool→Option Int
  |[],ok=>
    iN t t.Keys 0 ok
  |e::tl,ok=>
    (if ok then((sX e.Kind).bind fun r2=>
    some (!(r2==([]))))else some false).bind fun t4=>
    (iO t tl) t4

def m3(t:cc):Option Int:=
  (o8 t.Name).bind fun r=>
  (if((r&&(decide ((1:Int)≤(t.Columns.length:Int))))&&(decide ((t.Columns.length:Int)≤(4:Int))))then((kf t.Columns mZ).bind fun r1=>
  some r1)else some false).bind fun t1=>
  iO t t.Columns t1

def mb(t:cc):Option Bool:=
 (m3 t).bind fun r=>
 some (r !=(0:Int))

def dx(f:(cc→Option Bool)):List cc→Nat→Option Int
 |[],i=>
  some (-1:Int)
 |e::tl,i=>
  (f e).bind fun r=>
  if r then
  (some (i:Int))
  else
  ((dx f tl) (i+1))

def dT(s:(List cc))(f:(cc→Option Bool)):Option Int:=
 dx f s 0

def eB(s:(List cc))(f:(cc→Option Bool)):Option Bool:=
 (dT s f).bind fun r=>
 some (decide ((0:Int)≤r))

def gy(of:(cc→Option jn))(name:jn)(p:cc):Option Bool:=
 (of p).bind fun r=>
 some (r==name)

def kO(l:(List cc))(of:(cc→Option jn))(name:jn):Option (Int×Bool):=
 (dT l (gy of name)).bind fun r=>
 some ((max r (0:Int)),decide ((0:Int)≤r))

def fS(l:(List cc))(of:(cc→Option jn)):List cc→Nat→Option Bool
  |[],i=>
    some true
  |e::tl,i=>
    (of e).bind fun r=>
    (kO l of r).bind fun r1=>
    (if(!(r1.1 !=(i:Int)))then((of e).bind fun r2=>
    (o8 r2).bind fun r3=>
    some (!r3))else some true).bind fun t=>
    if t then
    (some false)
    else
    ((fS l of tl) (i+1))

def kN(l:(List cc))(of:(cc→Option jn)):Option Bool:=
 fS l of l 0

def nJ(t:cc):Option jn:=
 some t.Name

def rp(c:ff):Option Int:=
  (if(!(decide ((4:Int)<(c.Tables.length:Int))))then((eB c.Tables mb).bind fun r=>
  some r)else some true).bind fun t=>
  (if(!t)then((kN c.Tables nJ).bind fun r1=>
  some (!r1))else some true).bind fun t1=>
  if t1 then
  (some (210:Int))
  else
  (some (0:Int))

def gK(s2:(List Int)):List Int→Nat→Option Bool
 |[],i=>
  some true
 |e::tl,i=>
  (eG s2 (i:Int)).bind fun e1=>
  if(e !=e1)then
  (some false)
  else
  ((gK s2 tl) (i+1))

def f7(s1:(List Int))(s2:(List Int)):Option Bool:=
 if((s1.length:Int) !=(s2.length:Int))then
 (some false)
 else
 (gK s2 s1 0)

def nS(nx:Option Bool):Option Bool:=
 nx

def nR(nx:Option Bool)(e:ai):List bX→(List Int)→Option Bool
 |[],kinds=>
  (f7 kinds e.Kinds).bind fun r=>
  if(!r)then
  (some false)
  else
  (nS nx)
 |e2::tl1,kinds=>
  (kr kinds ([e2.Kind])).bind fun kinds1=>
  (nR nx e tl1) kinds1

def iz(c:ff):List ai→Option Bool
  |[]=>
    some true
  |e::tl=>
    if(e.Op !=(1:Int))then
    (nS (iz c tl))
    else
    (if(decide ((c.Tables.length:Int)≤e.Table))then
    (some false)
    else
    ((eG c.Tables e.Table).bind fun e1=>
    nR (iz c tl) e e1.Columns ([]:List Int)))

def vW(l:cF)(c:ff):Option Bool:=
 iz c l.Nodes

def d6(s:(List jD)):Option (List jD):=
 (kr ([]:List jD) s).bind fun x=>
 some x

def cg(s:(List bT)):Option (List bT):=
 (kr ([]:List bT) s).bind fun x=>
 some x

def eU(s:(List ko)):Option (List ko):=
 (kr ([]:List ko) s).bind fun x=>
 some x

def eu(s:(List bw)):Option (List bw):=
 (kr ([]:List bw) s).bind fun x=>
 some x

def lV:List bw→Nat→ai→Option ai
 |[],i1,n4=>
  some n4
 |e1::tl1,i1,n4=>
  (eG n4.Items (i1:Int)).bind fun e2=>
  (cg e2.Nodes).bind fun r6=>
  (some (n4.Items.set (i1:Int).toNat ({e2 with Nodes:=r6}:bw))).bind fun st=>
  (lV tl1) (i1+1) ({n4 with Items:=st}:ai)

def lW:List ko→Nat→ai→Option ai
 |[],i,n3=>
  lV n3.Items 0 n3
 |e::tl,i,n3=>
  (eG n3.Aggs (i:Int)).bind fun e3=>
  (cg e3.Arg.Nodes).bind fun r7=>
  (some (n3.Aggs.set (i:Int).toNat ({e3 with Arg:=({e3.Arg with Nodes:=r7}:bw)}:ko))).bind fun st1=>
  (lW tl) (i+1) ({n3 with Aggs:=st1}:ai)

def lX(n2:ai):Option ai:=
 (bZ n2.Kinds).bind fun r=>
 (bZ n2.Keys).bind fun r1=>
 (d6 n2.Order).bind fun r2=>
 (cg (((ai.mk n2.Op n2.A n2.B n2.Table r n2.Left n2.Cond r1 n2.Aggs n2.Items r2 n2.Limit).Cond).Nodes)).bind fun r3=>
 (eU (({(ai.mk n2.Op n2.A n2.B n2.Table r n2.Left n2.Cond r1 n2.Aggs n2.Items r2 n2.Limit)with Cond:=({(ai.mk n2.Op n2.A n2.B n2.Table r n2.Left n2.Cond r1 n2.Aggs n2.Items r2 n2.Limit).Cond with Nodes:=r3}:bw)}:ai).Aggs)).bind fun r4=>
 (eu (({(ai.mk n2.Op n2.A n2.B n2.Table r n2.Left n2.Cond r1 n2.Aggs n2.Items r2 n2.Limit)with Cond:=({(ai.mk n2.Op n2.A n2.B n2.Table r n2.Left n2.Cond r1 n2.Aggs n2.Items r2 n2.Limit).Cond with Nodes:=r3}:bw)}:ai).Items)).bind fun r5=>
 lW r4 0 ({({({(ai.mk n2.Op n2.A n2.B n2.Table r n2.Left n2.Cond r1 n2.Aggs n2.Items r2 n2.Limit)with Cond:=({(ai.mk n2.Op n2.A n2.B n2.Table r n2.Left n2.Cond r1 n2.Aggs n2.Items r2 n2.Limit).Cond with Nodes:=r3}:bw)}:ai)with Aggs:=r4}:ai)with Items:=r5}:ai)

def lY(by1:Int)(n1:ai):Option ai:=
 if(decide ((0:Int)≤n1.B))then
 (lX (ai.mk n1.Op n1.A (IntKind.i64.wrap (n1.B+by1)) n1.Table n1.Kinds n1.Left n1.Cond n1.Keys n1.Aggs n1.Items n1.Order n1.Limit))
 else
 (lX n1)

def sB(n:ai)(by1:Int):Option ai:=
 if(decide ((0:Int)≤n.A))then
 (lY by1 (ai.mk n.Op (IntKind.i64.wrap (n.A+by1)) n.B n.Table n.Kinds n.Left n.Cond n.Keys n.Aggs n.Items n.Order n.Limit))
 else
 (lY by1 n)

def nW(l:cF)(place:Int)(e:Int):Nat→Int→cF→Option (cF×Int)
  |0,_,_=>none
  |n+1,i,out=>
    if(decide (i≤place))then
    ((eG l.Nodes i).bind fun e1=>
    (sB e1 (IntKind.i64.wrap (0-e))).bind fun r1=>
    (kr out.Nodes ([r1])).bind fun l2=>
    (nW l place e n) (IntKind.i64.wrap (i+(1:Int))) ({out with Nodes:=l2}:cF))
    else
    (some (out,(0:Int)))

def wd(l:cF)(place:Int):Option (cF×Int):=
  (o6 l).bind fun r=>
  if(!r.2.2)then
  (some ((⟨[]⟩:cF),(230:Int)))
  else
  (if((decide (place<(0:Int)))||(decide ((l.Nodes.length:Int)≤place)))then
  (some ((⟨[]⟩:cF),(2:Int)))
  else
  ((eG r.1.first place).bind fun e=>
  nW l place e ni e ({(⟨[]⟩:cF)with Nodes:=([]:List ai)}:cF)))

def ja(p:aE)(s:bb)(cols:(List Int))(l:List cA)(r1:(List Int))(at1:Int):Option (bb×aE):=
 some ((⟨[(⟨(9:Int),(-1:Int),(-1:Int),(IntKind.i64.wrap ((l.length:Int)-(1:Int))),r1,false,(⟨[]⟩:bw),[],[],[],[],(0:Int)⟩:ai)],s.kinds,at1,cols⟩:bb),({p with Plan:=({p.Plan with Frags:=l}:bW)}:aE))

def dw(p:aE)(s:bb)(way:Int)(cols:(List Int)):Option (bb×aE):=
 (bZ cols).bind fun r=>
 (kr p.Plan.Frags ([(⟨s.nodes,s.at_,way,r⟩:cA)])).bind fun l=>
 (bZ s.kinds).bind fun r1=>
 if(way==(3:Int))then
 (ja p s cols l r1 (2:Int))
 else
 (ja p s cols l r1 (1:Int))

def ev(p:aE)(s:bb):Option (bb×aE):=
  if(s.at_==(2:Int))then
  (some (s,p))
  else
  ((dw p s (3:Int) ([])).bind fun r=>
  some (r.1,r.2))

def kD(p:aE)(n:ai)(kinds:(List Int))(x:(List bb)):Option bb:=
 (eG p.catalog.Tables n.Table).bind fun e=>
 some (⟨[n],kinds,(1:Int),e.Keys⟩:bb)

def ef(s:(List ai)):Option (List ai):=
 (kr ([]:List ai) s).bind fun x=>
 some x

def oW(nx1:bb→Option bb)(out1:bb)(x1:ai):Option bb:=
 (kr out1.nodes ([x1])).bind fun l6=>
 nx1 ({out1 with nodes:=l6}:bb)

def oX(out:bb)(nx1:bb→Option bb)(out1:bb)(x:ai):Option bb:=
 if(decide ((0:Int)≤x.B))then
 (oW nx1 out1 (ai.mk x.Op x.A (IntKind.i64.wrap (x.B+(out.nodes.length:Int))) x.Table x.Kinds x.Left x.Cond x.Keys x.Aggs x.Items x.Order x.Limit))
 else
 (oW nx1 out1 x)

def js(nx:Nat→ai→bb→Option bb)(i:Nat)(n1:ai)(out:bb):List ai→bb→Option bb
 |[],out1=>
  if((i:Int)==(0:Int))then
  (nx (i+1) (ai.mk n1.Op (IntKind.i64.wrap ((out1.nodes.length:Int)-(1:Int))) n1.B n1.Table n1.Kinds n1.Left n1.Cond n1.Keys n1.Aggs n1.Items n1.Order n1.Limit) out1)
  else
  (nx (i+1) (ai.mk n1.Op n1.A (IntKind.i64.wrap ((out1.nodes.length:Int)-(1:Int))) n1.Table n1.Kinds n1.Left n1.Cond n1.Keys n1.Aggs n1.Items n1.Order n1.Limit) out1)
 |e2::tl1,out1=>
  if(decide ((0:Int)≤e2.A))then
  (oX out (js nx i n1 out tl1) out1 (ai.mk e2.Op (IntKind.i64.wrap (e2.A+(out.nodes.length:Int))) e2.B e2.Table e2.Kinds e2.Left e2.Cond e2.Keys e2.Aggs e2.Items e2.Order e2.Limit))
  else
  (oX out (js nx i n1 out tl1) out1 e2)

def jt:List bb→Nat→ai→bb→Option bb
 |[],i,n1,out=>
  (kr out.nodes ([n1])).bind fun l2=>
  some ({out with nodes:=l2}:bb)
 |e1::tl,i,n1,out=>
  (ef e1.nodes).bind fun r=>
  js (jt tl) i n1 out r out

def ew(n:ai)(kinds:(List Int))(l:(List bb)):Option bb:=
 (eG l (0:Int)).bind fun e=>
 jt l 0 (ai.mk n.Op (-1:Int) (-1:Int) n.Table n.Kinds n.Left n.Cond n.Keys n.Aggs n.Items n.Order n.Limit) ({(⟨[],kinds,e.at_,[]⟩:bb)with nodes:=([]:List ai)}:bb)

def eg(s:bb)(columns:(List Int)):Option bb:=
 some (bb.mk s.nodes s.kinds s.at_ columns)

def jH(p:aE)(n:ai)(kinds:(List Int))(l:(List bb)):Option bb:=
 (eG l (0:Int)).bind fun e=>
 (ew n kinds ([e])).bind fun r=>
 (eg r e.hashed).bind fun r1=>
 some r1

def gJ(v:Int):List Int→Nat→Option Int
 |[],i=>
  some (-1:Int)
 |e::tl,i=>
  if(v==e)then
  (some (i:Int))
  else
  ((gJ v tl) (i+1))

def lE(s:(List Int))(v:Int):Option Int:=
 gJ v s 0

def mK(of:(List Int))(among:(List Int)):List Int→(List Int)→Option ((List Int)×Bool)
  |[],out=>
    some (out,decide ((0:Int)<(of.length:Int)))
  |e::tl,out=>
    (lE among e).bind fun r=>
    if(decide (r<(0:Int)))then
    (some ([],false))
    else
    ((kr out ([r])).bind fun out1=>
    (mK of among tl) out1)

def nt(of:(List Int))(among:(List Int)):Option ((List Int)×Bool):=
 mK of among of ([]:List Int)

def eP(n:ai)(kinds:(List Int))(l:(List bb)):List bw→Nat→(List Int)→Option bb
  |[],i1,bare=>
    (eG l (0:Int)).bind fun e1=>
    (nt e1.hashed bare).bind fun r=>
    (ew n kinds ([e1])).bind fun r1=>
    (eg r1 r.1).bind fun r2=>
    some r2
  |e::tl,i1,bare=>
    (eG bare (i1:Int)).bind fun e2=>
    (some (bare.set (i1:Int).toNat (-1:Int))).bind fun st=>
    (if((e.Nodes.length:Int)==(1:Int))then((eG e.Nodes (0:Int)).bind fun e3=>
    some (e3.Tag==(2:Int)))else some false).bind fun t=>
    if t then
    ((eG e.Nodes (0:Int)).bind fun e4=>
    (eG st (i1:Int)).bind fun e5=>
    (some (st.set (i1:Int).toNat e4.Col)).bind fun st1=>
    (eP n kinds l tl) (i1+1) st1)
    else
    ((eP n kinds l tl) (i1+1) st)

def jb(p:aE)(n:ai)(kinds:(List Int))(l:(List bb)):Option bb:=
 (tn (n.Items.length:Int) (0:Int)).bind fun mk=>
 eP n kinds l n.Items 0 mk

def dy(f:(bT→Option Bool)):List bT→Nat→Option Int
 |[],i=>
  some (-1:Int)
 |e::tl,i=>
  (f e).bind fun r=>
  if r then
  (some (i:Int))
  else
  ((dy f tl) (i+1))

def fb(s:(List bT))(f:(bT→Option Bool)):Option Int:=
 dy f s 0

def eC(s:(List bT))(f:(bT→Option Bool)):Option Bool:=
 (fb s f).bind fun r=>
 some (decide ((0:Int)≤r))

def uC(n:bT):Option Bool:=
 (l9 n.Tag).bind fun r=>
 some r

def xQ(e:bw):Option Bool:=
  (mX e).bind fun r=>
  (if(r==(0:Int))then((eC e.Nodes uC).bind fun r1=>
  some (!r1))else some false).bind fun t=>
  some t

def pn(nx:(List bw)→(List Int)→Option (List bw))(out1:List bw)(open2:List Int):Option (List bw):=
 nx out1 open2

def pm(e3:Int)(nx1:Nat→bw→Option (List bw))(i:Nat)(part1:bw):Option (List bw):=
  (eG part1.Nodes (i:Int)).bind fun e6=>
  if(decide ((0:Int)≤e6.R))then
  ((some (part1.Nodes.set (i:Int).toNat ({e6 with R:=(IntKind.i64.wrap (e6.R-e3))}:bT))).bind fun st=>
  nx1 (i+1) ({part1 with Nodes:=st}:bw))
  else
  (nx1 (i+1) part1)

def kL(nx:(List bw)→(List Int)→Option (List bw))(out:List bw)(y:List Int)(e3:Int):List bT→Nat→bw→Option (List bw)
  |[],i,part=>
    (kr out ([part])).bind fun out2=>
    pn nx out2 y
  |e4::tl,i,part=>
    (eG part.Nodes (i:Int)).bind fun e5=>
    if(decide ((0:Int)≤e5.L))then
    ((some (part.Nodes.set (i:Int).toNat ({e5 with L:=(IntKind.i64.wrap (e5.L-e3))}:bT))).bind fun st1=>
    pm e3 (kL nx out y e3 tl) i ({part with Nodes:=st1}:bw))
    else
    (pm e3 (kL nx out y e3 tl) i part)

def ie(e:bw)(r:(List Int)×Bool):Nat→(List bw)→(List Int)→Option (List bw)
  |0,_,_=>none
  |n+1,out,open1=>
    if(decide ((0:Int)<(open1.length:Int)))then
    ((eG open1 (IntKind.i64.wrap ((open1.length:Int)-(1:Int)))).bind fun e1=>
    (du open1 0 (IntKind.i64.wrap ((open1.length:Int)-(1:Int)))).bind fun y=>
    (eG e.Nodes e1).bind fun e2=>
    if(e2.Tag==(22:Int))then
    ((kr y ([e2.R,e2.L])).bind fun open3=>
    pn (ie e r n) out open3)
    else
    ((eG r.1 e1).bind fun e3=>
    (du e.Nodes e3 (IntKind.i64.wrap (e1+(1:Int)))).bind fun y1=>
    (cg y1).bind fun r1=>
    kL (ie e r n) out y e3 r1 0 ({(⟨r1⟩:bw)with Nodes:=r1}:bw)))
    else
    (some out)

def xT(e:bw):Option (List bw):=
 (qt e).bind fun r=>
 if(!r.2)then
 (some ([]:List bw))
 else
 (ie e r ni ([]:List bw) ([(IntKind.i64.wrap ((e.Nodes.length:Int)-(1:Int)))]))

def xR(e:bw)(left:Int):Option (Int×Int×Bool):=
  (mX e).bind fun r=>
  (if(!((r !=(0:Int))||((e.Nodes.length:Int) !=(3:Int))))then((eG e.Nodes (2:Int)).bind fun e1=>
  some (e1.Tag !=(16:Int)))else some true).bind fun t=>
  if t then
  (some ((0:Int),(0:Int),false))
  else
  ((eG e.Nodes (0:Int)).bind fun e2=>
  (eG e.Nodes (1:Int)).bind fun e3=>
  if((e2.Tag !=(2:Int))||(e3.Tag !=(2:Int)))then
  (some ((0:Int),(0:Int),false))
  else
  (if((decide (left≤(min e2.Col e3.Col)))||(decide ((max e2.Col e3.Col)<left)))then
  (some ((0:Int),(0:Int),false))
  else
  (some ((min e2.Col e3.Col),(IntKind.i64.wrap ((max e2.Col e3.Col)-left)),true))))

def lx(nx:(List Int)→(List Int)→Option ((List Int)×(List Int)))(a2:List Int)(b1:List Int):Option ((List Int)×(List Int)):=
 nx a2 b1

def iA(left:Int):List bw→(List Int)→(List Int)→Option ((List Int)×(List Int))
  |[],a1,b=>
    some (a1,b)
  |e::tl,a1,b=>
    (xR e left).bind fun r1=>
    if(!r1.2.2)then
    ((xQ e).bind fun r2=>
    if(!r2)then
    (some ([],[]))
    else
    (lx (iA left tl) a1 b))
    else
    (if(decide ((a1.length:Int)<(16:Int)))then
    ((kr a1 ([r1.1])).bind fun a3=>
    (kr b ([r1.2.1])).bind fun b3=>
    lx (iA left tl) a3 b3)
    else
    (lx (iA left tl) a1 b))

def vX(cond:bw)(left:Int):Option ((List Int)×(List Int)):=
 (xT cond).bind fun r=>
 iA left r ([]:List Int) ([]:List Int)

def lb(other:(List Int))(r:(List Int)×Bool):List Int→(List Int)→Option ((List Int)×Bool)
 |[],out=>
  some (out,r.2)
 |e::tl,out=>
  (eG other e).bind fun e1=>
  (kr out ([e1])).bind fun out1=>
  (lb other r tl) out1

def nT(of:(List Int))(among:(List Int))(other:(List Int)):Option ((List Int)×Bool):=
 (nt of among).bind fun r=>
 lb other r r.1 ([]:List Int)

def eK(n:ai)(kinds:(List Int))(a1:bb)(b2:bb)(ob:aE):Option (bb×aE):=
 (ew n kinds ([a1,b2])).bind fun r7=>
 (eg r7 a1.hashed).bind fun r8=>
 some (r8,ob)

def kE(p:aE)(n:ai)(kinds:(List Int))(l:(List bb)):Option (bb×aE):=
  (eG l (0:Int)).bind fun e=>
  (eG l (1:Int)).bind fun e1=>
  if((e.at_==(2:Int))||(e1.at_==(2:Int)))then
  ((ev p e).bind fun r=>
  (ev r.2 e1).bind fun r1=>
  (ew n kinds ([r.1,r1.1])).bind fun r2=>
  some (r2,r1.2))
  else
  ((vX n.Cond (e.kinds.length:Int)).bind fun r3=>
  if((r3.1.length:Int)==(0:Int))then
  ((dw p e1 (2:Int) ([])).bind fun r4=>
  (ew n kinds ([e,r4.1])).bind fun r5=>
  (eg r5 e.hashed).bind fun r6=>
  some (r6,r4.2))
  else
  ((nT e.hashed r3.1 r3.2).bind fun r9=>
  if r9.2 then
  ((f7 e1.hashed r9.1).bind fun r10=>
  if(!r10)then
  ((dw p e1 (1:Int) r9.1).bind fun r11=>
  eK n kinds e r11.1 r11.2)
  else
  (eK n kinds e e1 p))
  else
  ((nT e1.hashed r3.2 r3.1).bind fun r12=>
  if r12.2 then
  ((dw p e (1:Int) r12.1).bind fun r13=>
  eK n kinds r13.1 e1 r13.2)
  else
  ((dw p e (1:Int) r3.1).bind fun r14=>
  (dw r14.2 e1 (1:Int) r3.2).bind fun r15=>
  eK n kinds r14.1 r15.1 r15.2))))

def jr(n:Int):Nat→(List Int)→Int→Option (List Int)
  |0,_,_=>none
  |n1+1,out,x=>
    if(decide (x<n))then
    ((kr out ([x])).bind fun out1=>
    (jr n n1) out1 (IntKind.i64.wrap (x+(1:Int))))
    else
    (some out)

def om(n:Int):Option (List Int):=
 jr n ni ([]:List Int) (0:Int)

def jT(n:ai):List ko→Nat→(List Int)→Option (List Int)
  |[],i,out=>
    some out
  |e::tl,i,out=>
    if(e.Tag==(3:Int))then
    ((eG out (IntKind.i64.wrap ((n.Keys.length:Int)+(i:Int)))).bind fun e1=>
    (some (out.set (IntKind.i64.wrap ((n.Keys.length:Int)+(i:Int))).toNat (4:Int))).bind fun st=>
    (jT n tl) (i+1) st)
    else
    ((jT n tl) (i+1) out)

def oV(n:ai)(kinds:(List Int)):Option (List Int):=
 (bZ kinds).bind fun r=>
 jT n n.Aggs 0 r

def iJ(kinds:(List Int))(r4:(List Int))(r7:bb×aE):List ko→ai→Option (bb×aE)
 |[],last=>
  (ew last kinds ([r7.1])).bind fun r8=>
  (eg r8 r4).bind fun r9=>
  some (r9,r7.2)
 |e1::tl,last=>
  (kr last.Aggs ([(⟨e1.Tag,(⟨[]⟩:bw)⟩:ko)])).bind fun l3=>
  (iJ kinds r4 r7 tl) ({last with Aggs:=l3}:ai)

def iK(p:aE)(n:ai)(kinds:(List Int))(e:bb)(r4:(List Int))(way:Int):Option (bb×aE):=
 (oV (ai.mk (10:Int) n.A n.B n.Table n.Kinds n.Left n.Cond n.Keys n.Aggs n.Items n.Order n.Limit) kinds).bind fun r5=>
 (ew (ai.mk (10:Int) n.A n.B n.Table n.Kinds n.Left n.Cond n.Keys n.Aggs n.Items n.Order n.Limit) r5 ([e])).bind fun r6=>
 (dw p r6 way r4).bind fun r7=>
 iJ kinds r4 r7 n.Aggs ({(⟨(11:Int),(0:Int),(0:Int),(0:Int),[],false,(⟨[]⟩:bw),r4,[],[],[],(0:Int)⟩:ai)with Aggs:=([]:List ko)}:ai)

def j5(p:aE)(n:ai)(kinds:(List Int))(l:(List bb)):Option (bb×aE):=
  (eG l (0:Int)).bind fun e=>
  if(e.at_==(2:Int))then
  ((ew n kinds ([e])).bind fun r=>
  some (r,p))
  else
  ((nt e.hashed n.Keys).bind fun r1=>
  if r1.2 then
  ((ew n kinds ([e])).bind fun r2=>
  (eg r2 r1.1).bind fun r3=>
  some (r3,p))
  else
  ((om (n.Keys.length:Int)).bind fun r4=>
  if((r4.length:Int)==(0:Int))then
  (iK p n kinds e r4 (3:Int))
  else
  (iK p n kinds e r4 (1:Int))))

def iL(p:aE)(n:ai)(kinds:(List Int))(l:(List bb)):Option (bb×aE):=
  (eG l (0:Int)).bind fun e=>
  if((e.at_==(2:Int))||(decide ((0:Int)<(e.hashed.length:Int))))then
  ((ew n kinds ([e])).bind fun r=>
  (eg r e.hashed).bind fun r1=>
  some (r1,p))
  else
  ((om (kinds.length:Int)).bind fun r2=>
  (dw p e (1:Int) r2).bind fun r3=>
  (ew n kinds ([r3.1])).bind fun r4=>
  (eg r4 r2).bind fun r5=>
  some (r5,r3.2))

def iH(ob:aE)(out:bb):Option (bb×aE):=
 some (out,ob)

def iI(n:ai)(kinds:(List Int))(a1:bb)(b2:bb)(ob:aE):Option (bb×aE):=
  (ew n kinds ([a1,b2])).bind fun r=>
  (if(a1.at_==(1:Int))then((f7 a1.hashed b2.hashed).bind fun r1=>
  some r1)else some false).bind fun t=>
  if t then
  (iH ob (bb.mk r.nodes r.kinds r.at_ a1.hashed))
  else
  (iH ob r)

def j3(p:aE)(n:ai)(kinds:(List Int))(l:(List bb)):Option (bb×aE):=
  (eG l (0:Int)).bind fun e=>
  (eG l (1:Int)).bind fun e1=>
  if(e.at_ !=e1.at_)then
  ((ev p e).bind fun r2=>
  (ev r2.2 e1).bind fun r3=>
  iI n kinds r2.1 r3.1 r3.2)
  else
  (iI n kinds e e1 p)

def j4(p:aE)(n:ai)(kinds:(List Int))(l:(List bb)):Option (bb×aE):=
  (eG l (0:Int)).bind fun e=>
  (ew n kinds ([e])).bind fun r=>
  if(r.at_==(2:Int))then
  (some (r,p))
  else
  ((ev p r).bind fun r1=>
  (ew n kinds ([r1.1])).bind fun r2=>
  some (r2,r1.2))

def ga(self__:aE→Int→Option (bb×aE))(at1:Int)(e:ai):Nat→Nat→(List bb)→aE→Option (bb×aE)
  |0,i,parts,ob=>
    (eG ob.kinds at1).bind fun e2=>
    (((dB (cw (cw (cw (cw (cw (cw (cw (cw ([]:List (Int×(aE→(ai×(List Int)×(List bb))→Option (bb×aE)))) (1:Int) (fun(mc:aE) (mx:ai×(List Int)×(List bb))=>(kD mc mx.1 mx.2.1 mx.2.2).map fun mr=>(mr,mc))) (3:Int) (fun(mc:aE) (mx:ai×(List Int)×(List bb))=>(jH mc mx.1 mx.2.1 mx.2.2).map fun mr=>(mr,mc))) (5:Int) (fun(mc:aE) (mx:ai×(List Int)×(List bb))=>(jb mc mx.1 mx.2.1 mx.2.2).map fun mr=>(mr,mc))) (2:Int) (fun(mc:aE) (mx:ai×(List Int)×(List bb))=>kE mc mx.1 mx.2.1 mx.2.2)) (4:Int) (fun(mc:aE) (mx:ai×(List Int)×(List bb))=>j5 mc mx.1 mx.2.1 mx.2.2)) (6:Int) (fun(mc:aE) (mx:ai×(List Int)×(List bb))=>iL mc mx.1 mx.2.1 mx.2.2)) (7:Int) (fun(mc:aE) (mx:ai×(List Int)×(List bb))=>j3 mc mx.1 mx.2.1 mx.2.2)) (8:Int) (fun(mc:aE) (mx:ai×(List Int)×(List bb))=>j4 mc mx.1 mx.2.1 mx.2.2)) e.Op).getD (fun _ _=>none)) ob (e,e2,parts)).bind fun r=>
    some (r.1,r.2)
  |k1+1,i,parts,ob=>
    (eG ([e.A,e.B]) (i:Int)).bind fun e3=>
    if(decide ((0:Int)≤e3))then
    ((self__ ob e3).bind fun r1=>
    (kr parts ([r1.1])).bind fun parts1=>
    (ga self__ at1 e k1) (i+1) parts1 r1.2)
    else
    ((ga self__ at1 e k1) (i+1) parts ob)

def gA:Nat→aE→Int→Option (bb×aE)
 |0,_,_=>none
 |fu+1,p,at1=>
  (eG p.tree.Nodes at1).bind fun e=>
  ga (gA fu) at1 e 2 0 ([]:List bb) p

def nr(p:aE)(at1:Int):Option (bb×aE):=
 gA ni p at1

def qd(f:cA):Option Bool:=
 some (decide ((60:Int)<(f.Nodes.length:Int)))

def dK(f:(cA→Option Bool)):List cA→Nat→Option Int
 |[],i=>
  some (-1:Int)
 |e::tl,i=>
  (f e).bind fun r=>
  if r then
  (some (i:Int))
  else
  ((dK f tl) (i+1))

def fE(s:(List cA))(f:(cA→Option Bool)):Option Int:=
 dK f s 0

def eO(s:(List cA))(f:(cA→Option Bool)):Option Bool:=
 (fE s f).bind fun r=>
 some (decide ((0:Int)≤r))

def oY(l:cF):List ai→Nat→aE→Option (bW×Int)
  |[],i,ob=>
    (nr ob (IntKind.i64.wrap ((l.Nodes.length:Int)-(1:Int)))).bind fun r3=>
    (ev r3.2 r3.1).bind fun r4=>
    (kr r4.2.Plan.Frags ([(⟨r4.1.nodes,(2:Int),(4:Int),[]⟩:cA)])).bind fun l3=>
    (if(!(decide ((30:Int)<(l3.length:Int))))then((eO l3 qd).bind fun r5=>
    some r5)else some true).bind fun t=>
    if t then
    (some ((⟨[]⟩:bW),(3:Int)))
    else
    (some (({r4.2 with Plan:=({r4.2.Plan with Frags:=l3}:bW)}:aE).Plan,(0:Int)))
  |e::tl,i,ob=>
    (wd l (i:Int)).bind fun r6=>
    (uv r6.1).bind fun r7=>
    (kr ob.kinds ([r7.1])).bind fun l4=>
    (oY l tl) (i+1) ({ob with kinds:=l4}:aE)

def xy(l:cF)(c:ff):Option (bW×Int):=
  (uw l).bind fun r=>
  if(r.2 !=(0:Int))then
  (some ((⟨[]⟩:bW),r.2))
  else
  ((rp c).bind fun r1=>
  if(r1 !=(0:Int))then
  (some ((⟨[]⟩:bW),r1))
  else
  ((vW l c).bind fun r2=>
  if(!r2)then
  (some ((⟨[]⟩:bW),(2:Int)))
  else
  (oY l l.Nodes 0 (⟨(⟨[]⟩:bW),l,c,[]⟩:aE))))

def g9(p:bW)(frag:Int)(nodes:Int):Option Int:=
 if(((((decide ((30:Int)<(p.Frags.length:Int)))||(decide (frag<(0:Int))))||(decide ((p.Frags.length:Int)≤frag)))||(decide (nodes<(1:Int))))||(decide ((8:Int)<nodes)))then
 (some (2:Int))
 else
 (some (0:Int))

def fz{Sg:Type}(from1:Int)(yld:(Int×Int)→Sg→Option (Bool×Sg))(nx:Nat→Sg→Option Sg)(i:Nat):List ai→Nat→Sg→Option Sg
  |[],i1,s2=>
    nx (i+1) s2
  |e4::tl1,i1,s2=>
    if((e4.Op==(9:Int))&&(e4.Table==from1))then
    ((yld ((i:Int),(i1:Int)) s2).bind fun r=>
    if(!r.1)then
    (some r.2)
    else
    ((fz from1 yld nx i tl1) (i1+1) r.2))
    else
    ((fz from1 yld nx i tl1) (i1+1) s2)

def fA{Sg:Type}(from1:Int)(yld:(Int×Int)→Sg→Option (Bool×Sg)):List cA→Nat→Sg→Option Sg
 |[],i,s1=>
  some s1
 |e2::tl,i,s1=>
  fz from1 yld (fA from1 yld tl) i e2.Nodes 0 s1

def nQ{Sg:Type}(p:bW)(from1:Int)(yld:(Int×Int)→Sg→Option (Bool×Sg))(s:Sg):Option Sg:=
 fA from1 yld p.Frags 0 s

def np(p:bW)(from1:Int):Option (It (Int×Int)):=
 some (fun _=>nQ p from1)

def qb(x:Int×Int)(x1:Bool)(x2:Int)(x3:Int):Option (Option Nat×(Bool×Int×Int)):=
 some (some 0,(true,x.2,x.1))

def nq(p:bW)(from1:Int):Option (Int×Int×Bool):=
 (np p from1).bind fun it=>
 ((itU it) (Option Nat×(Bool×Int×Int)) (wt (fun x s=>qb x s.1 s.2.1 s.2.2)) (none,(false,(0:Int),(0:Int)))).bind fun r=>
 if r.1.1.isNone then
 (some ((0:Int),(0:Int),false))
 else
 (some (r.1.2.2.2,r.1.2.2.1,r.1.2.1))

def lF(p:bW)(frag:Int):Option Int:=
 (nq p frag).bind fun r=>
 if r.2.2 then
 (some r.1)
 else
 (some (-1:Int))

def mJ(f:cA)(nodes:Int):Option (List Int):=
  if(f.At==(2:Int))then
  (some ([(0:Int)]))
  else
  ((om (IntKind.i64.wrap (nodes+(1:Int)))).bind fun r=>
  (du r (1:Int) (r.length:Int)).bind fun y=>
  some y)

def nU{Sg:Type}(nx:Nat→Sg→Option Sg)(i:Nat)(s2:Sg):Option Sg:=
 nx (i+1) s2

def jM{Sg:Type}(yld:(aV×Int)→Sg→Option (Bool×Sg))(i:Nat)(r:Int)(nx1:Sg→Option Sg)(e5:Int):List Int→Sg→Option Sg
 |[],s4=>
  nx1 s4
 |e8::tl2,s4=>
  (yld ((⟨(i:Int),e5,e8⟩:aV),r) s4).bind fun r3=>
  if(!r3.1)then
  (some r3.2)
  else
  ((jM yld i r nx1 e5 tl2) r3.2)

def iB{Sg:Type}(p:bW)(nodes:Int)(yld:(aV×Int)→Sg→Option (Bool×Sg))(nx:Nat→Sg→Option Sg)(i:Nat)(r:Int):List Int→Sg→Option Sg
 |[],s3=>
  nU nx i s3
 |e5::tl1,s3=>
  (eG p.Frags r).bind fun e6=>
  (mJ e6 nodes).bind fun r2=>
  jM yld i r (iB p nodes yld nx i r tl1) e5 r2 s3

def eE{Sg:Type}(p:bW)(nodes:Int)(yld:(aV×Int)→Sg→Option (Bool×Sg)):List cA→Nat→Sg→Option Sg
  |[],i,s1=>
    some s1
  |e2::tl,i,s1=>
    (lF p (i:Int)).bind fun r=>
    if(decide (r<(0:Int)))then
    (nU (eE p nodes yld tl) i s1)
    else
    ((mJ e2 nodes).bind fun r1=>
    iB p nodes yld (eE p nodes yld tl) i r r1 s1)

def rK{Sg:Type}(p:bW)(nodes:Int)(yld:(aV×Int)→Sg→Option (Bool×Sg))(s:Sg):Option Sg:=
 eE p nodes yld p.Frags 0 s

def su(p:bW)(nodes:Int):Option (It (aV×Int)):=
 some (fun _=>rK p nodes)

def f9(holds:(aV→Int→Option Bool))(x:aV×Int)(xs:List aV):Option (List aV):=
  (holds x.1 x.2).bind fun r=>
  if r then
  ((kr xs ([x.1])).bind fun l1=>
  some l1)
  else
  (some xs)

def mq(p:bW)(nodes:Int)(holds:(aV→Int→Option Bool)):Option (List aV):=
 (su p nodes).bind fun it=>
 (it (List aV) (qy (fun x s=>f9 holds x s)) ([]:List aV)).bind fun xs1=>
 some xs1

def qc(p:aV)(p1:Int):Option Bool:=
 some true

def hG(p:bW)(nodes:Int):Option ((List aV)×Int):=
  (g9 p (0:Int) nodes).bind fun r=>
  if(r !=(0:Int))then
  (some ([],r))
  else
  ((mq p nodes qc).bind fun r1=>
  some (r1,(0:Int)))

def ux:Option ff:=
 some (⟨[(⟨[116],[(⟨[97],(2:Int)⟩:bX),(⟨[98],(2:Int)⟩:bX)],[(0:Int)]⟩:cc),(⟨[117],[(⟨[99],(2:Int)⟩:bX)],[]⟩:cc)]⟩:ff)

def qi:Option Bool:=
  (ux).bind fun r=>
  (xy (⟨[(⟨(1:Int),(-1:Int),(-1:Int),(1:Int),[(2:Int)],false,(⟨[]⟩:bw),[],[],[],[],(0:Int)⟩:ai),(⟨(4:Int),(0:Int),(-1:Int),(0:Int),[],false,(⟨[]⟩:bw),[],[(⟨(1:Int),(⟨[]⟩:bw)⟩:ko)],[],[],(0:Int)⟩:ai)]⟩:cF) r).bind fun r1=>
  (hG r1.1 (3:Int)).bind fun r2=>
  (if(((r1.2==(0:Int))&&(r2.2==(0:Int)))&&((r1.1.Frags.length:Int)==(2:Int)))then((eG r1.1.Frags (0:Int)).bind fun e=>
  some ((e.Nodes.length:Int)==(2:Int)))else some false).bind fun t=>
  (if t then((eG r1.1.Frags (0:Int)).bind fun e1=>
  (eG e1.Nodes (1:Int)).bind fun e2=>
  some (e2.Op==(10:Int)))else some false).bind fun t1=>
  some (t1&&((r2.1.length:Int)==(3:Int)))

def nu(p:bW)(frag:Int):Option (Int×Int):=
  (g9 p frag (1:Int)).bind fun r=>
  if(r !=(0:Int))then
  (some ((0:Int),r))
  else
  ((lF p frag).bind fun r1=>
  some (r1,(0:Int)))

def gj:List bT→Option Bool
 |[]=>
  some false
 |e1::tl=>
  if(decide ((200:Int)<(e1.Value.S.length:Int)))then
  (some true)
  else
  ((gj tl))

def gM(e:bw):Option Bool:=
 if(decide ((100:Int)<(e.Nodes.length:Int)))then
 (some true)
 else
 (gj e.Nodes)

def jN(nx:Option Bool):List ko→Option Bool
 |[]=>
  nx
 |e2::tl2=>
  (gM e2.Arg).bind fun r1=>
  if r1 then
  (some true)
  else
  ((jN nx tl2))

def jO(nx:Option Bool)(e:ai):List bw→Option Bool
 |[]=>
  jN nx e.Aggs
 |e1::tl1=>
  (gM e1).bind fun r2=>
  if r2 then
  (some true)
  else
  ((jO nx e tl1))

def fv:List ai→Option Bool
  |[]=>
    some false
  |e::tl=>
    (if(!(((((decide ((20:Int)<(e.Kinds.length:Int)))||(decide ((20:Int)<(e.Keys.length:Int))))||(decide ((20:Int)<(e.Order.length:Int))))||(decide ((20:Int)<(e.Items.length:Int))))||(decide ((20:Int)<(e.Aggs.length:Int)))))then((gM e.Cond).bind fun r=>
    some r)else some true).bind fun t=>
    if t then
    (some true)
    else
    (jO (fv tl) e e.Items)

def o9(l:(List ai)):Option Bool:=
 if(decide ((65:Int)<(l.length:Int)))then
 (some true)
 else
 (fv l)

def gi:List cA→Option Bool
  |[]=>
    some false
  |e::tl=>
    (if(!(decide ((40:Int)<(e.Cols.length:Int))))then((o9 e.Nodes).bind fun r=>
    some r)else some true).bind fun t=>
    if t then
    (some true)
    else
    ((gi tl))

def kG(p:bW):Option Bool:=
 if(decide ((40:Int)<(p.Frags.length:Int)))then
 (some true)
 else
 (gi p.Frags)

def oZ(frag:Int)(node:Int)(s:aV)(x:Int):Option Bool:=
 some ((s.Frag==frag)&&(s.From==node))

def o0(p:bW)(frag:Int)(nodes:Int)(node:Int):Option ((List aV)×Int):=
  (g9 p frag nodes).bind fun r=>
  if(r !=(0:Int))then
  (some ([],r))
  else
  ((mq p nodes (oZ frag node)).bind fun r1=>
  some (r1,(0:Int)))

def qe(frag:Int)(node:Int)(s:aV)(to1:Int):Option Bool:=
 some ((to1==frag)&&(s.To==node))

def qI(p:bW)(frag:Int)(nodes:Int)(node:Int):Option ((List aV)×Int):=
  (g9 p frag nodes).bind fun r=>
  if(r !=(0:Int))then
  (some ([],r))
  else
  ((mq p nodes (qe frag node)).bind fun r1=>
  some (r1,(0:Int)))

def di(r2:(List aV)×Int)(out:List ((Int×Int×Int)×Int))(in1:List ((Int×Int×Int)×Int)):List aV→Option Bool
 |[]=>
  some (((out.length:Int)==(r2.1.length:Int))&&((in1.length:Int)==(r2.1.length:Int)))
 |e1::tl1=>
  if((((dB out (e1.Frag,e1.From,e1.To)).getD (0:Int)) !=(1:Int))||(((dB in1 (e1.Frag,e1.From,e1.To)).getD (0:Int)) !=(1:Int)))then
  (some false)
  else
  ((di r2 out in1 tl1))

def dC(p:bW)(i:Nat)(nx2:Int→(List ((Int×Int×Int)×Int))→(List ((Int×Int×Int)×Int))→Option Bool)(n:Int)(out2:List ((Int×Int×Int)×Int)):List aV→(List ((Int×Int×Int)×Int))→Option Bool
 |[],in3=>
  nx2 (IntKind.i64.wrap (n+(1:Int))) out2 in3
 |e3::tl3,in3=>
  (nu p e3.Frag).bind fun r5=>
  if(((r5.2 !=(0:Int))||(r5.1 !=(i:Int)))||(e3.To !=n))then
  (some false)
  else
  ((dC p i nx2 n out2 tl3) (cw (cw in3 (e3.Frag,e3.From,e3.To) ((dB in3 (e3.Frag,e3.From,e3.To)).getD (0:Int))) (e3.Frag,e3.From,e3.To) (IntKind.i64.wrap (((dB in3 (e3.Frag,e3.From,e3.To)).getD (0:Int))+(1:Int)))))

def dD(p:bW)(i:Nat)(nx2:Int→(List ((Int×Int×Int)×Int))→(List ((Int×Int×Int)×Int))→Option Bool)(n:Int)(in2:List ((Int×Int×Int)×Int))(r4:(List aV)×Int):List aV→(List ((Int×Int×Int)×Int))→Option Bool
 |[],out2=>
  dC p i nx2 n out2 r4.1 in2
 |e2::tl2,out2=>
  if((e2.Frag !=(i:Int))||(e2.From !=n))then
  (some false)
  else
  ((dD p i nx2 n in2 r4 tl2) (cw (cw out2 (e2.Frag,e2.From,e2.To) ((dB out2 (e2.Frag,e2.From,e2.To)).getD (0:Int))) (e2.Frag,e2.From,e2.To) (IntKind.i64.wrap (((dB out2 (e2.Frag,e2.From,e2.To)).getD (0:Int))+(1:Int)))))

def cO(p:bW)(nodes:Int)(nx:Nat→(List ((Int×Int×Int)×Int))→(List ((Int×Int×Int)×Int))→Option Bool)(i:Nat):Nat→Int→(List ((Int×Int×Int)×Int))→(List ((Int×Int×Int)×Int))→Option Bool
  |0,_,_,_=>none
  |n1+1,n,out1,in2=>
    if(decide (n≤(IntKind.i64.wrap ((((max nodes (0:Int))).tmod (4:Int))+(1:Int)))))then
    ((o0 p (i:Int) (IntKind.i64.wrap ((((max nodes (0:Int))).tmod (4:Int))+(1:Int))) n).bind fun r3=>
    (qI p (i:Int) (IntKind.i64.wrap ((((max nodes (0:Int))).tmod (4:Int))+(1:Int))) n).bind fun r4=>
    if((r3.2 !=(0:Int))||(r4.2 !=(0:Int)))then
    (some false)
    else
    (dD p i (cO p nodes nx i n1) n in2 r4 r3.1 out1))
    else
    (nx (i+1) out1 in2)

def cP(p:bW)(nodes:Int)(r2:(List aV)×Int):List cA→Nat→(List ((Int×Int×Int)×Int))→(List ((Int×Int×Int)×Int))→Option Bool
 |[],i,out,in1=>
  di r2 out in1 r2.1
 |e::tl,i,out,in1=>
  cO p nodes (cP p nodes r2 tl) i ni (0:Int) out in1

def kH(p:bW)(nodes:Int):Option Bool:=
  (qi).bind fun r=>
  if(!r)then
  (some false)
  else
  ((kG p).bind fun r1=>
  if r1 then
  (some true)
  else
  ((hG p (IntKind.i64.wrap ((((max nodes (0:Int))).tmod (4:Int))+(1:Int)))).bind fun r2=>
  if(r2.2 !=(0:Int))then
  (some (((r2.1.length:Int)==(0:Int))&&(((p.Frags.length:Int)==(0:Int))||(decide ((30:Int)<(p.Frags.length:Int))))))
  else
  (cP p nodes r2 p.Frags 0 ([]:List ((Int×Int×Int)×Int)) ([]:List ((Int×Int×Int)×Int)))))

def i9(x1:Bool):Option Int:=
 if x1 then
 (some (1:Int))
 else
 (some (-1:Int))

def p8(op:Int)(x:Bool):Option Int:=
  if x then
  (some (2:Int))
  else
  (if(op==(3:Int))then
  (i9 (op==(3:Int)))
  else
  (if(op==(4:Int))then
  (i9 (op==(4:Int)))
  else
  (if(op==(5:Int))then
  (i9 (op==(5:Int)))
  else
  (if(op==(6:Int))then
  (i9 (op==(6:Int)))
  else
  (i9 (op==(8:Int)))))))

def Ag(op:Int):Option Int:=
  if(op==(1:Int))then
  (some (0:Int))
  else
  (if(op==(2:Int))then
  (p8 op (op==(2:Int)))
  else
  (p8 op (op==(7:Int))))

def kC:Nat→cF→Int→Option Int
  |0,_,_=>none
  |fu+1,l,at1=>
    if((decide (at1<(0:Int)))||(decide ((l.Nodes.length:Int)≤at1)))then
    (some (0:Int))
    else
    ((eG l.Nodes at1).bind fun e=>
    (Ag e.Op).bind fun r=>
    if(r==(0:Int))then
    (if((e.A==(-1:Int))&&(e.B==(-1:Int)))then
    (some (1:Int))
    else
    (some (0:Int)))
    else
    (if(r==(1:Int))then
    (if((e.A==(IntKind.i64.wrap (at1-(1:Int))))&&(e.B==(-1:Int)))then
    (((kC fu) l e.A).bind fun r1=>
    if(decide ((0:Int)<r1))then
    (some (IntKind.i64.wrap (r1+(1:Int))))
    else
    (some (0:Int)))
    else
    (some (0:Int)))
    else
    (if(r==(2:Int))then
    (if(e.B==(IntKind.i64.wrap (at1-(1:Int))))then
    (((kC fu) l e.B).bind fun r2=>
    if((decide ((0:Int)<r2))&&(e.A==(IntKind.i64.wrap (e.B-r2))))then
    (((kC fu) l e.A).bind fun r3=>
    if(decide ((0:Int)<r3))then
    (some (IntKind.i64.wrap ((IntKind.i64.wrap (r3+r2))+(1:Int))))
    else
    (some (0:Int)))
    else
    (some (0:Int)))
    else
    (some (0:Int)))
    else
    (some (0:Int)))))

def vT(l:cF)(at1:Int):Option Int:=
 kC ni l at1

def DE(n:ai):Option Bool:=
  if((n.Op !=(1:Int))&&((n.Table !=(0:Int))||(decide ((0:Int)<(n.Kinds.length:Int)))))then
  (some false)
  else
  (if(((n.Op !=(2:Int))&&n.Left)||(((n.Op !=(2:Int))&&(n.Op !=(3:Int)))&&(decide ((0:Int)<(n.Cond.Nodes.length:Int)))))then
  (some false)
  else
  (if(((n.Op !=(4:Int))&&((decide ((0:Int)<(n.Keys.length:Int)))||(decide ((0:Int)<(n.Aggs.length:Int)))))||((n.Op !=(5:Int))&&(decide ((0:Int)<(n.Items.length:Int)))))then
  (some false)
  else
  (some ((n.Op==(8:Int))||(((n.Order.length:Int)==(0:Int))&&(n.Limit==(0:Int)))))))

def Aj(tag:Int):Option Int:=
  if((decide (tag<(1:Int)))||(decide ((23:Int)<tag)))then
  (some (-1:Int))
  else
  (if(decide (tag≤(3:Int)))then
  (some (0:Int))
  else
  (if(decide (tag≤(11:Int)))then
  (some (1:Int))
  else
  (some (2:Int))))

def Ai(tag:Int):Option Int:=
  if((tag==(3:Int))||((decide ((8:Int)≤tag))&&(decide (tag≤(11:Int)))))then
  (some (-1:Int))
  else
  ((Aj tag).bind fun r=>
  some r)

def Ak(v:de):Option Bool:=
  if(v.Kind==(0:Int))then
  (some (decide (v=(⟨(0:Int),(0:Int),(0:Int),[]⟩:de))))
  else
  (if(v.Kind==(1:Int))then
  (some (((v.U==(0:Int))&&(v.S==([])))&&((v.N==(0:Int))||(v.N==(1:Int)))))
  else
  (if(v.Kind==(2:Int))then
  (some ((v.U==(0:Int))&&(v.S==([]))))
  else
  (if(v.Kind==(3:Int))then
  (some (((v.N==(0:Int))&&(v.U==(0:Int)))&&(decide ((v.S.length:Int)≤(40:Int)))))
  else
  (some ((v.Kind==(4:Int))&&(v.S==([])))))))

def Al(v:de):Option Bool:=
 (Ak v).bind fun r=>
 some (r&&(v.Kind !=(4:Int)))

def yQ(n:bT):Option Bool:=
  if(n.Tag==(1:Int))then
  ((Al n.Value).bind fun r=>
  some (r&&(n.Col==(0:Int))))
  else
  (if(n.Tag==(2:Int))then
  (some (((decide (n.Value=(⟨(0:Int),(0:Int),(0:Int),[]⟩:de)))&&(decide ((0:Int)≤n.Col)))&&(decide (n.Col<(16:Int)))))
  else
  (some ((decide (n.Value=(⟨(0:Int),(0:Int),(0:Int),[]⟩:de)))&&(n.Col==(0:Int)))))

def oQ:Nat→bw→Int→Option Int
  |0,_,_=>none
  |fu+1,e,place=>
    if((decide (place<(0:Int)))||(decide ((e.Nodes.length:Int)≤place)))then
    (some (0:Int))
    else
    ((eG e.Nodes place).bind fun e1=>
    (Ai e1.Tag).bind fun r=>
    (if(!(decide (r<(0:Int))))then((yQ e1).bind fun r1=>
    some (!r1))else some true).bind fun t=>
    if t then
    (some (0:Int))
    else
    (if(r==(0:Int))then
    (if((e1.L !=(-1:Int))||(e1.R !=(-1:Int)))then
    (some (0:Int))
    else
    (some (1:Int)))
    else
    (((oQ fu) e (IntKind.i64.wrap (place-(1:Int)))).bind fun r2=>
    if(r2==(0:Int))then
    (some (0:Int))
    else
    (if(r==(1:Int))then
    (if((e1.L !=(IntKind.i64.wrap (place-(1:Int))))||(e1.R !=(-1:Int)))then
    (some (0:Int))
    else
    (some (IntKind.i64.wrap (r2+(1:Int)))))
    else
    (((oQ fu) e (IntKind.i64.wrap ((IntKind.i64.wrap (place-(1:Int)))-r2))).bind fun r3=>
    if(((r3==(0:Int))||(e1.R !=(IntKind.i64.wrap (place-(1:Int)))))||(e1.L !=(IntKind.i64.wrap ((IntKind.i64.wrap (place-(1:Int)))-r2))))then
    (some (0:Int))
    else
    (some (IntKind.i64.wrap ((IntKind.i64.wrap (r3+r2))+(1:Int)))))))))

def BH(e:bw)(place:Int):Option Int:=
 oQ ni e place

def Ah(e:bw):Option Bool:=
  (if((decide ((1:Int)≤(e.Nodes.length:Int)))&&(decide ((e.Nodes.length:Int)≤(1000:Int))))then((BH e (IntKind.i64.wrap ((e.Nodes.length:Int)-(1:Int)))).bind fun r=>
  some (r==(e.Nodes.length:Int)))else some false).bind fun t=>
  some t

def oS(k:Int)(want:Int):Option Bool:=
 some ((k==want)||(k==(0:Int)))

def vU(tag:Int)(l:Int)(r:Int):Option (Int×Bool):=
  if((tag==(4:Int))||((decide ((12:Int)≤tag))&&(decide (tag≤(15:Int)))))then
  ((oS l (2:Int)).bind fun r1=>
  (if r1 then((oS r (2:Int)).bind fun r2=>
  some r2)else some false).bind fun t=>
  some ((2:Int),t))
  else
  (if((tag==(5:Int))||(decide ((22:Int)≤tag)))then
  ((oS l (1:Int)).bind fun r3=>
  (if r3 then((oS r (1:Int)).bind fun r4=>
  some r4)else some false).bind fun t1=>
  some ((1:Int),t1))
  else
  (if((tag==(6:Int))||(tag==(7:Int)))then
  (some ((1:Int),true))
  else
  (some ((1:Int),(((l==r)||(l==(0:Int)))||(r==(0:Int)))))))

def rf(nx2:(List Int)→Option (Int×Int))(e3:bT)(own:List Int)(e6:Int)(r1:Int):Option (Int×Int):=
  (vU e3.Tag e6 r1).bind fun r2=>
  if(!r2.2)then
  (some ((0:Int),(201:Int)))
  else
  ((kr own ([r2.1])).bind fun own3=>
  nx2 own3)

def jL(kinds:(List Int)):List bT→(List Int)→Option (Int×Int)
  |[],own=>
    (eG own (IntKind.i64.wrap ((own.length:Int)-(1:Int)))).bind fun e4=>
    some (e4,(0:Int))
  |e3::tl2,own=>
    if(e3.Tag==(1:Int))then
    ((kr own ([e3.Value.Kind])).bind fun own1=>
    (jL kinds tl2) own1)
    else
    (if(e3.Tag==(2:Int))then
    ((eG kinds e3.Col).bind fun e5=>
    (kr own ([e5])).bind fun own2=>
    (jL kinds tl2) own2)
    else
    ((eG own e3.L).bind fun e6=>
    if(decide ((0:Int)≤e3.R))then
    ((eG own e3.R).bind fun e7=>
    rf (jL kinds tl2) e3 own e6 e7)
    else
    (rf (jL kinds tl2) e3 own e6 (0:Int))))

def rd(e:bw)(kinds:(List Int)):List bT→Option (Int×Int)
 |[]=>
  jL kinds e.Nodes ([]:List Int)
 |e2::tl1=>
  if((e2.Tag==(2:Int))&&(decide ((kinds.length:Int)≤e2.Col)))then
  (some ((0:Int),(2:Int)))
  else
  ((rd e kinds tl1))

def re(e:bw)(kinds:(List Int)):List Int→Option (Int×Int)
 |[]=>
  rd e kinds e.Nodes
 |e1::tl=>
  if((decide (e1<(0:Int)))||(decide ((3:Int)<e1)))then
  (some ((0:Int),(2:Int)))
  else
  ((re e kinds tl))

def rJ(e:bw)(kinds:(List Int)):Option (Int×Int):=
 (Ah e).bind fun r=>
 if(!r)then
 (some ((0:Int),(200:Int)))
 else
 (re e kinds kinds)

def ul(e:bw)(kinds:(List Int)):Option Bool:=
 (rJ e kinds).bind fun r=>
 some ((r.2==(0:Int))&&((r.1==(0:Int))||(r.1==(1:Int))))

def uY(a1:ko)(kinds:(List Int)):Option (Int×Bool):=
  if(a1.Tag==(1:Int))then
  (some ((2:Int),((a1.Arg.Nodes.length:Int)==(0:Int))))
  else
  ((rJ a1.Arg kinds).bind fun r=>
  if(((decide (a1.Tag<(1:Int)))||(decide ((5:Int)<a1.Tag)))||(r.2 !=(0:Int)))then
  (some ((0:Int),false))
  else
  (if(((a1.Tag==(3:Int))&&(r.1 !=(2:Int)))&&(r.1 !=(0:Int)))then
  (some ((0:Int),false))
  else
  (if(decide ((4:Int)≤a1.Tag))then
  (some (r.1,true))
  else
  (some ((2:Int),true)))))

def p6(n:ai):Nat→Bool→Int→Option ((List Int)×Bool)
  |0,_,_=>none
  |n1+1,ok,i=>
    if(decide (i<(n.Kinds.length:Int)))then
    ((if ok then((eG n.Kinds i).bind fun e=>
    some (decide ((1:Int)≤e)))else some false).bind fun t=>
    (if t then((eG n.Kinds i).bind fun e1=>
    some (decide (e1≤(3:Int))))else some false).bind fun t1=>
    (p6 n n1) t1 (IntKind.i64.wrap (i+(1:Int))))
    else
    (some (n.Kinds,((((ok&&(decide ((0:Int)≤n.Table)))&&(decide (n.Table≤(3:Int))))&&(decide ((1:Int)≤(n.Kinds.length:Int))))&&(decide ((n.Kinds.length:Int)≤(4:Int))))))

def p4(n:ai)(a1:(List Int)):Nat→(List Int)→Bool→Int→Option ((List Int)×Bool)
  |0,_,_,_=>none
  |n3+1,out3,ok1,i2=>
    if(decide (i2<(n.Aggs.length:Int)))then
    ((eG n.Aggs i2).bind fun e4=>
    (uY e4 a1).bind fun r2=>
    (kr out3 ([r2.1])).bind fun out4=>
    (p4 n a1 n3) out4 (ok1&&r2.2) (IntKind.i64.wrap (i2+(1:Int))))
    else
    (some (out3,(((ok1&&(decide ((n.Keys.length:Int)≤(3:Int))))&&(decide ((n.Aggs.length:Int)≤(12:Int))))&&(decide ((0:Int)<(out3.length:Int))))))

def p5(n:ai)(a1:(List Int)):Nat→(List Int)→Int→Option ((List Int)×Bool)
  |0,_,_=>none
  |n2+1,out1,i1=>
    if(decide (i1<(n.Keys.length:Int)))then
    ((eG n.Keys i1).bind fun e2=>
    if((decide (e2<(0:Int)))||(decide ((a1.length:Int)≤e2)))then
    (some ([],false))
    else
    ((eG a1 e2).bind fun e3=>
    (kr out1 ([e3])).bind fun out2=>
    (p5 n a1 n2) out2 (IntKind.i64.wrap (i1+(1:Int)))))
    else
    (p4 n a1 ni out1 true (0:Int))

def pZ(n:ai)(a1:(List Int)):Nat→(List Int)→Bool→Int→Option ((List Int)×Bool)
  |0,_,_,_=>none
  |n4+1,out5,ok2,i3=>
    if(decide (i3<(n.Items.length:Int)))then
    ((eG n.Items i3).bind fun e5=>
    (rJ e5 a1).bind fun r3=>
    (kr out5 ([r3.1])).bind fun out6=>
    (pZ n a1 n4) out6 (ok2&&(r3.2==(0:Int))) (IntKind.i64.wrap (i3+(1:Int))))
    else
    (some (out5,((ok2&&(decide ((1:Int)≤(out5.length:Int))))&&(decide ((out5.length:Int)≤(16:Int))))))

def p7(b:(List Int))(nx4:Nat→(List Int)→Bool→Option ((List Int)×Bool))(i4:Nat)(out7:List Int)(ok3:Bool)(k:Int):Option ((List Int)×Bool):=
  (kr out7 ([k])).bind fun out8=>
  (if ok3 then((eG b (i4:Int)).bind fun e7=>
  (if(!(e7==k))then((eG b (i4:Int)).bind fun e8=>
  some (e8==(0:Int)))else some true).bind fun t3=>
  some t3)else some false).bind fun t2=>
  nx4 (i4+1) out8 t2

def mG(b:(List Int)):List Int→Nat→(List Int)→Bool→Option ((List Int)×Bool)
  |[],i4,out7,ok3=>
    some (out7,ok3)
  |e6::tl,i4,out7,ok3=>
    if(e6==(0:Int))then
    ((eG b (i4:Int)).bind fun e9=>
    p7 b (mG b tl) i4 out7 ok3 e9)
    else
    (p7 b (mG b tl) i4 out7 ok3 e6)

def pY(n:ai)(a1:(List Int)):Nat→Bool→Int→Option ((List Int)×Bool)
  |0,_,_=>none
  |n5+1,ok4,i5=>
    if(decide (i5<(n.Order.length:Int)))then
    ((if ok4 then((eG n.Order i5).bind fun e10=>
    some (decide ((0:Int)≤e10.Col)))else some false).bind fun t4=>
    (if t4 then((eG n.Order i5).bind fun e11=>
    some (decide (e11.Col<(a1.length:Int))))else some false).bind fun t5=>
    (pY n a1 n5) t5 (IntKind.i64.wrap (i5+(1:Int))))
    else
    (some (a1,(((ok4&&(decide ((n.Order.length:Int)≤(3:Int))))&&(decide ((-1:Int)≤n.Limit)))&&(decide (n.Limit≤(2147483647:Int))))))

def Af(n:ai)(a1:(List Int))(b:(List Int)):Option ((List Int)×Bool):=
  if(n.Op==(1:Int))then
  (p6 n ni true (0:Int))
  else
  (if(n.Op==(2:Int))then
  ((kr ([]:List Int) a1).bind fun l=>
  (kr l b).bind fun out=>
  (ul n.Cond out).bind fun r=>
  some (out,r))
  else
  (if(n.Op==(3:Int))then
  ((ul n.Cond a1).bind fun r1=>
  some (a1,r1))
  else
  (if(n.Op==(4:Int))then
  (p5 n a1 ni ([]:List Int) (0:Int))
  else
  (if(n.Op==(5:Int))then
  (pZ n a1 ni ([]:List Int) true (0:Int))
  else
  (if(n.Op==(6:Int))then
  (some (a1,true))
  else
  (if(n.Op==(7:Int))then
  (if((a1.length:Int) !=(b.length:Int))then
  (some ([],false))
  else
  (mG b a1 0 ([]:List Int) true))
  else
  (pY n a1 ni true (0:Int))))))))

def p9(l:cF)(at1:Int)(e1:ai)(a1:(List Int))(b1:(List Int)):Option ((List Int)×Bool):=
 (Af e1 a1 b1).bind fun r2=>
 if(((e1.Op==(8:Int))&&(at1 !=(IntKind.i64.wrap ((l.Nodes.length:Int)-(1:Int)))))||(decide ((16:Int)<(r2.1.length:Int))))then
 (some ([],false))
 else
 (some (r2.1,r2.2))

def qa(self__:cF→Int→Option ((List Int)×Bool))(l:cF)(at1:Int)(e1:ai)(a1:(List Int)):Option ((List Int)×Bool):=
  if(decide ((0:Int)≤e1.B))then
  ((self__ l e1.B).bind fun r3=>
  if(!r3.2)then
  (some ([],false))
  else
  (p9 l at1 e1 a1 r3.1))
  else
  (p9 l at1 e1 a1 ([]))

def lv:Nat→cF→Int→Option ((List Int)×Bool)
  |0,_,_=>none
  |fu+1,l,at1=>
    (vT l at1).bind fun r=>
    (if(!(r==(0:Int)))then((eG l.Nodes at1).bind fun e=>
    (DE e).bind fun r1=>
    some (!r1))else some true).bind fun t=>
    if t then
    (some ([],false))
    else
    ((eG l.Nodes at1).bind fun e1=>
    if(decide ((0:Int)≤e1.A))then
    (((lv fu) l e1.A).bind fun r4=>
    if(!r4.2)then
    (some ([],false))
    else
    (qa (lv fu) l at1 e1 r4.1))
    else
    (qa (lv fu) l at1 e1 ([])))

end Go.Proofs.YtnmjbolollcokaaGreatDoor

