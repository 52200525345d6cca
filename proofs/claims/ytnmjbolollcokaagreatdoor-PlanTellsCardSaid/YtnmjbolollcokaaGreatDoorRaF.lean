/- cN of this claim: F. -/
import Derived.Test.YtnmjbolollcokaaGreatDoorRaD
import Derived.Test.YtnmjbolollcokaaGreatDoorRaV4
import Derived.Lib.MapU
set_option linter.all false
namespace Go.Proofs.YtnmjbolollcokaaGreatDoor
open Go

def fk(f:(Int→Option Bool)):List Int→Nat→Option Int
 |[],i=>
  some (-1:Int)
 |e::tl,i=>
  (f e).bind fun r=>
  if r then
  (some (i:Int))
  else
  ((fk f tl) (i+1))

def jZ(s:(List Int))(f:(Int→Option Bool)):Option Int:=
 fk f s 0

def fm(s:(List Int))(f:(Int→Option Bool)):Option Bool:=
 (jZ s f).bind fun r=>
 some (decide ((0:Int)≤r))

def uI(k:Int):Option Bool:=
 some (((k==(1:Int))||(k==(2:Int)))||(k==(3:Int)))

def jq(k:Int):Option Bool:=
 (uI k).bind fun r=>
 some (!r)

def ir(c:aB)(n:ai):Option ((List Int)×Bool):=
  (if((((decide ((0:Int)≤n.Table))&&(decide (n.Table<(4:Int))))&&(decide ((1:Int)≤(n.Kinds.length:Int))))&&(decide ((n.Kinds.length:Int)≤(4:Int))))then((fm n.Kinds jq).bind fun r=>
  some (!r))else some false).bind fun t=>
  some (n.Kinds,t)

def ij(s:List Int):Option (List Int):=
 some s

def kQ(n:Int):Option (List Int):=
  if(decide ((0:Int)<(IntKind.i64.wrap (n-(IntKind.i64.wrap ((0:Int)-(0:Int)))))))then
  ((Mh (IntKind.i64.wrap (n-(IntKind.i64.wrap ((0:Int)-(0:Int)))))).bind fun _=>
  (tJ (IntKind.i64.wrap (n-(IntKind.i64.wrap ((0:Int)-(0:Int))))) (0:Int)).bind fun mk=>
  (dw mk 0 (0:Int)).bind fun y=>
  ij y)
  else
  (ij ([]:List Int))

def mz(n:Int):Option (List Int):=
 if(decide (n<(0:Int)))then
 (none)
 else
 (kQ n)

def gC:List (List Int)→(List Int)→Option (List Int)
 |[],newslice=>
  some newslice
 |e1::tl1,newslice=>
  (kB newslice e1).bind fun newslice1=>
  (gC tl1) newslice1

def gD(slices:(List (List Int))):List (List Int)→Int→Option (List Int)
 |[],size=>
  (mz size).bind fun r=>
  gC slices r
 |e::tl,size=>
  if(decide ((IntKind.i64.wrap (size+(e.length:Int)))<(0:Int)))then
  (none)
  else
  ((gD slices tl) (IntKind.i64.wrap (size+(e.length:Int))))

def iS(slices:(List (List Int))):Option (List Int):=
 gD slices slices (0:Int)

def sn(tag:Int):Option Int:=
  if((tag==(1:Int))||(tag==(2:Int)))then
  (some (0:Int))
  else
  (if((decide ((4:Int)≤tag))&&(decide (tag≤(7:Int))))then
  (some (1:Int))
  else
  (if((decide ((12:Int)≤tag))&&(decide (tag≤(23:Int))))then
  (some (2:Int))
  else
  (some (-1:Int))))

def gY(v1:dh):Option dh:=
 some v1

def mX(v2:dh):Option dh:=
 gY (dh.mk (0:Int) v2.N v2.U v2.S)

def mW(v:dh):Option dh:=
 mX (dh.mk v.Kind (0:Int) v.U v.S)

def mV(v3:dh):Option dh:=
 gY v3

def uA(v:dh):Option dh:=
  if(v.Kind==(1:Int))then
  (if((v.N !=(0:Int))&&(v.N !=(1:Int)))then
  (gY v)
  else
  (mW v))
  else
  (if(v.Kind==(2:Int))then
  (mW v)
  else
  (if(v.Kind==(0:Int))then
  (mX v)
  else
  (if(v.Kind==(3:Int))then
  (if(decide ((v.S.length:Int)≤(40:Int)))then
  (mV (dh.mk (0:Int) v.N v.U ([])))
  else
  (mV v))
  else
  (if(v.Kind==(4:Int))then
  (gY (dh.mk (0:Int) (0:Int) (0:Int) v.S))
  else
  (gY v)))))

def uC(v:dh):Option Int:=
 (uA v).bind fun r=>
 if(!decide (r=(⟨(0:Int),(0:Int),(0:Int),[]⟩:dh)))then
 (some (120:Int))
 else
 (some (0:Int))

def uB(v:dh):Option Bool:=
 (uC v).bind fun r=>
 some ((r==(0:Int))&&(v.Kind !=(4:Int)))

def uQ(n:bT):Option Bool:=
  if(n.Tag==(1:Int))then
  ((uB n.Value).bind fun r=>
  some (r&&(n.Col==(0:Int))))
  else
  (if(n.Tag==(2:Int))then
  (some (((decide (n.Value=(⟨(0:Int),(0:Int),(0:Int),[]⟩:dh)))&&(decide ((0:Int)≤n.Col)))&&(decide (n.Col<(16:Int)))))
  else
  (some ((decide (n.Value=(⟨(0:Int),(0:Int),(0:Int),[]⟩:dh)))&&(n.Col==(0:Int)))))

def nf(nx:Nat→(List Int)→(List Int)→Option ((List Int)×Bool))(i:Nat)(e1:bT)(all:List Int)(open1:List Int)(r:Int):List Int→Nat→Int→(List Int)→Option ((List Int)×Bool)
  |[],i1,first,at1=>
    if(!decide (at1=([e1.L,e1.R])))then
    (some ([],false))
    else
    ((kB all ([first])).bind fun all1=>
    (dw open1 0 (IntKind.i64.wrap ((open1.length:Int)-r))).bind fun y1=>
    (kB y1 ([(i:Int)])).bind fun open2=>
    nx (i+1) all1 open2)
  |e2::tl1,i1,first,at1=>
    (eh all e2).bind fun e3=>
    (eh at1 (i1:Int)).bind fun e4=>
    (some (at1.set (i1:Int).toNat e2)).bind fun ar=>
    (nf nx i e1 all open1 r tl1) (i1+1) (min first e3) ar

def k7:List bT→Nat→(List Int)→(List Int)→Option ((List Int)×Bool)
  |[],i,all,open1=>
    some (all,(((open1.length:Int)==(1:Int))&&(decide ((all.length:Int)≤(1000:Int)))))
  |e1::tl,i,all,open1=>
    (sn e1.Tag).bind fun r=>
    (if(!((decide (r<(0:Int)))||(decide ((open1.length:Int)<r))))then((uQ e1).bind fun r1=>
    some (!r1))else some true).bind fun t=>
    if t then
    (some ([],false))
    else
    ((dw open1 (IntKind.i64.wrap ((open1.length:Int)-r)) (open1.length:Int)).bind fun y=>
    nf (k7 tl) i e1 all open1 r y 0 (i:Int) ([(-1:Int),(-1:Int)]))

def qN(e:bA):Option ((List Int)×Bool):=
 k7 e.Nodes 0 ([]:List Int) ([]:List Int)

def nh(e:bA):Option Int:=
 (qN e).bind fun r=>
 if(!r.2)then
 (some (200:Int))
 else
 (some (0:Int))

def er(i:Nat)(y:List Int):Nat→Nat→(List Int)→Int→Option (List Int)
  |0,i1,s1,k=>
    (dw s1 k (s1.length:Int)).bind fun y1=>
    (some (s1.take k.toNat++List.replicate y1.length (0:Int))).bind fun cl=>
    (dw cl 0 k).bind fun y2=>
    some y2
  |k2+1,i1,s1,k=>
    (DV s1 (i:Int) y.length (i1:Int)).bind fun e3=>
    (DV s1 (i:Int) y.length (IntKind.i64.wrap ((i1:Int)-(1:Int)))).bind fun e4=>
    if(e3 !=e4)then
    ((DV s1 (i:Int) y.length (i1:Int)).bind fun e5=>
    (eh s1 k).bind fun e6=>
    (some (s1.set k.toNat e5)).bind fun st=>
    (er i y k2) (i1+1) st (IntKind.i64.wrap (k+(1:Int))))
    else
    ((er i y k2) (i1+1) s1 k)

def fW(s:(List Int)):List Int→Nat→Option (List Int)
  |[],i=>
    some s
  |e::tl,i=>
    (eh s (IntKind.i64.wrap ((i:Int)-(1:Int)))).bind fun e1=>
    if(e==e1)then
    ((dw s (i:Int) (s.length:Int)).bind fun y=>
    er i y (y.length-1) 1 s (i:Int))
    else
    ((fW s tl) (i+1))

def kR(s:(List Int)):Option (List Int):=
 if(decide ((s.length:Int)<(2:Int)))then
 (some s)
 else
 (fW s (s.drop (1)) 1)

def mM:List bT→(List Int)→Option (List Int)
  |[],out=>
    (yG out).bind fun Kc=>
    (kR Kc).bind fun r1=>
    some r1
  |e1::tl,out=>
    if(e1.Tag==(2:Int))then
    ((kB out ([e1.Col])).bind fun out1=>
    (mM tl) out1)
    else
    ((mM tl) out)

def xU(e:bA):Option (List Int):=
 (nh e).bind fun r=>
 if(r !=(0:Int))then
 (some ([]:List Int))
 else
 (mM e.Nodes ([]:List Int))

def cd(s:(List Int)):Option (List Int):=
 (kB ([]:List Int) s).bind fun x=>
 some x

def pV(stack:(List Int))(k:Int):Option ((List Int)×(List Int)):=
 (dw stack (IntKind.i64.wrap ((stack.length:Int)-k)) (stack.length:Int)).bind fun y=>
 (cd y).bind fun r=>
 (dw stack 0 (IntKind.i64.wrap ((stack.length:Int)-k))).bind fun y1=>
 some (r,y1)

def lI(bad:Int)(stack:List Int):Option (Int×Int):=
  if(bad !=(0:Int))then
  (some ((0:Int),bad))
  else
  ((eh stack (0:Int)).bind fun e1=>
  some (e1,(0:Int)))

def lH(do1:(bT→(List Int)→Option (Int×Int))):List bT→Int→(List Int)→Option (Int×Int)
  |[],bad1,stack1=>
    lI bad1 stack1
  |e2::tl,bad1,stack1=>
    (sn e2.Tag).bind fun r=>
    (pV stack1 r).bind fun r1=>
    (do1 e2 r1.1).bind fun r2=>
    if(r2.2 !=(0:Int))then
    (lI r2.2 r1.2)
    else
    ((kB r1.2 ([r2.1])).bind fun l2=>
    (lH do1 tl) bad1 l2)

def rF(e:bA)(do1:(bT→(List Int)→Option (Int×Int))):Option (Int×Int):=
 lH do1 e.Nodes (0:Int) ([]:List Int)

def mu(tag:Int):Option Bool:=
 some ((tag==(4:Int))||((decide ((12:Int)≤tag))&&(decide (tag≤(15:Int)))))

def jw(kinds:(List Int))(n:bT):List Int→Int→Option (Int×Int)
  |[],own=>
    if(n.Tag==(1:Int))then
    (some (n.Value.Kind,(0:Int)))
    else
    (if(n.Tag==(2:Int))then
    ((eh kinds n.Col).bind fun e1=>
    some (e1,(0:Int)))
    else
    ((mu n.Tag).bind fun r=>
    if r then
    (if((own==(-1:Int))||((own !=(0:Int))&&(own !=(2:Int))))then
    (some ((0:Int),(201:Int)))
    else
    (some ((2:Int),(0:Int))))
    else
    (if(((n.Tag==(5:Int))||(n.Tag==(22:Int)))||(n.Tag==(23:Int)))then
    (if((own==(-1:Int))||((own !=(0:Int))&&(own !=(1:Int))))then
    (some ((0:Int),(201:Int)))
    else
    (some ((1:Int),(0:Int))))
    else
    (if((own==(-1:Int))||((own !=(0:Int))&&(own !=own)))then
    (some ((0:Int),(201:Int)))
    else
    (some ((1:Int),(0:Int)))))))
  |e::tl,own=>
    if((e==(0:Int))||(e==own))then
    ((jw kinds n tl) own)
    else
    (if(own==(0:Int))then
    ((jw kinds n tl) e)
    else
    ((jw kinds n tl) (-1:Int)))

def qO(kinds:(List Int))(n:bT)(l:(List Int)):Option (Int×Int):=
 jw kinds n l (0:Int)

def pE(e:bA)(kinds:(List Int)):List Int→Option (Int×Int)
 |[]=>
  (rF e (qO kinds)).bind fun r2=>
  some (r2.1,r2.2)
 |e2::tl1=>
  if(decide ((kinds.length:Int)≤e2))then
  (some ((0:Int),(2:Int)))
  else
  ((pE e kinds tl1))

def pF(e:bA)(kinds:(List Int)):List Int→Option (Int×Int)
 |[]=>
  (xU e).bind fun r1=>
  pE e kinds r1
 |e1::tl=>
  if((decide (e1<(0:Int)))||(decide ((3:Int)<e1)))then
  (some ((0:Int),(2:Int)))
  else
  ((pF e kinds tl))

def rj(e:bA)(kinds:(List Int)):Option (Int×Int):=
 (nh e).bind fun r=>
 if(r !=(0:Int))then
 (some ((0:Int),r))
 else
 (pF e kinds kinds)

def qE(e:bA)(kinds:(List Int)):Option Bool:=
 (rj e kinds).bind fun r=>
 some ((r.2==(0:Int))&&((r.1==(1:Int))||(r.1==(0:Int))))

def iu(c:aB)(n:ai):Option ((List Int)×Bool):=
 (eh c.kinds n.A).bind fun e=>
 (eh c.kinds n.B).bind fun e1=>
 (iS ([e,e1])).bind fun r=>
 (qE n.Cond r).bind fun r1=>
 some (r,r1)

def gv(c:aB)(n:ai):Option ((List Int)×Bool):=
 (eh c.kinds n.A).bind fun e=>
 (qE n.Cond e).bind fun r=>
 some (e,r)

def m6(kinds:(List Int))(c:Int):Option Bool:=
 some ((decide (c<(0:Int)))||(decide ((kinds.length:Int)≤c)))

def sS(l:(List Int))(kinds:(List Int)):Option Bool:=
 (fm l (m6 kinds)).bind fun r=>
 some (!r)

def po(r:Int×Int)(x:Bool):Option (Int×Bool):=
 if x then
 (some (r.1,(r.2==(0:Int))))
 else
 (some ((0:Int),false))

def xN(a1:kF)(kinds:(List Int)):Option (Int×Bool):=
  if(a1.Tag==(1:Int))then
  (some ((2:Int),((a1.Arg.Nodes.length:Int)==(0:Int))))
  else
  ((rj a1.Arg kinds).bind fun r=>
  if(a1.Tag==(2:Int))then
  (some ((2:Int),(r.2==(0:Int))))
  else
  (if(a1.Tag==(3:Int))then
  (some ((2:Int),((r.2==(0:Int))&&((r.1==(2:Int))||(r.1==(0:Int))))))
  else
  (if(a1.Tag==(4:Int))then
  (po r (a1.Tag==(4:Int)))
  else
  (po r (a1.Tag==(5:Int))))))

def iv(e:(List Int)):List kF→(List Int)→Bool→Option ((List Int)×Bool)
 |[],out1,ok=>
  some (out1,ok)
 |e2::tl1,out1,ok=>
  (xN e2 e).bind fun r1=>
  (kB out1 ([r1.1])).bind fun out2=>
  (iv e tl1) out2 (ok&&r1.2)

def iw(n:ai)(e:(List Int))(t:Bool):List Int→(List Int)→Option ((List Int)×Bool)
 |[],out=>
  iv e n.Aggs out t
 |e1::tl,out=>
  (eh e e1).bind fun e3=>
  (kB out ([e3])).bind fun out3=>
  (iw n e t tl) out3

def gT(c:aB)(n:ai):Option ((List Int)×Bool):=
  (eh c.kinds n.A).bind fun e=>
  (if(((decide ((n.Keys.length:Int)≤(3:Int)))&&(decide ((n.Aggs.length:Int)≤(12:Int))))&&(decide ((0:Int)<(IntKind.i64.wrap ((n.Keys.length:Int)+(n.Aggs.length:Int))))))then((sS n.Keys e).bind fun r=>
  some r)else some false).bind fun t=>
  if(!t)then
  (some ([],false))
  else
  (iw n e t n.Keys ([]:List Int))

def gH(c:aB)(n:ai):List bA→(List Int)→Bool→Option ((List Int)×Bool)
 |[],out,ok=>
  some (out,ok)
 |e::tl,out,ok=>
  (eh c.kinds n.A).bind fun e1=>
  (rj e e1).bind fun r=>
  (kB out ([r.1])).bind fun out1=>
  (gH c n tl) out1 (ok&&(r.2==(0:Int)))

def fQ(c:aB)(n:ai):Option ((List Int)×Bool):=
 gH c n n.Items ([]:List Int) ((decide ((1:Int)≤(n.Items.length:Int)))&&(decide ((n.Items.length:Int)≤(16:Int))))

def fx(c:aB)(n:ai):Option ((List Int)×Bool):=
 (eh c.kinds n.A).bind fun e=>
 some (e,true)

def iq(nx:Nat→(List Int)→Bool→Option ((List Int)×Bool))(i:Nat)(e2:Int)(ok:Bool)(out1:List Int):Option ((List Int)×Bool):=
  (if ok then((eh out1 (i:Int)).bind fun e3=>
  some ((e3==e2)||(e2==(0:Int))))else some false).bind fun t=>
  nx (i+1) out1 t

def ek:List Int→Nat→(List Int)→Bool→Option ((List Int)×Bool)
  |[],i,out,ok=>
    some (out,ok)
  |e2::tl,i,out,ok=>
    (eh out (i:Int)).bind fun e4=>
    if(e4==(0:Int))then
    ((some (out.set (i:Int).toNat e2)).bind fun st=>
    iq (ek tl) i e2 ok st)
    else
    (iq (ek tl) i e2 ok out)

def gR(c:aB)(n:ai):Option ((List Int)×Bool):=
  (eh c.kinds n.A).bind fun e=>
  (eh c.kinds n.B).bind fun e1=>
  if((e.length:Int) !=(e1.length:Int))then
  (some ([],false))
  else
  ((cd e).bind fun r=>
  ek e1 0 r true)

def iY(in1:(List Int))(o:jP):Option Bool:=
 some ((decide (o.Col<(0:Int)))||(decide ((in1.length:Int)≤o.Col)))

def d6(f:(jP→Option Bool)):List jP→Nat→Option Int
 |[],i=>
  some (-1:Int)
 |e::tl,i=>
  (f e).bind fun r=>
  if r then
  (some (i:Int))
  else
  ((d6 f tl) (i+1))

def gj(s:(List jP))(f:(jP→Option Bool)):Option Int:=
 d6 f s 0

def fA(s:(List jP))(f:(jP→Option Bool)):Option Bool:=
 (gj s f).bind fun r=>
 some (decide ((0:Int)≤r))

def gS(c:aB)(n:ai):Option ((List Int)×Bool):=
  (eh c.kinds n.A).bind fun e=>
  (if(decide ((n.Order.length:Int)≤(3:Int)))then((fA n.Order (iY e)).bind fun r=>
  some (!r))else some false).bind fun t=>
  some (e,(((t&&(decide ((-1:Int)≤n.Limit)))&&(decide (n.Limit≤(2147483647:Int))))&&((c.kinds.length:Int)==(IntKind.i64.wrap ((c.Logic.Nodes.length:Int)-(1:Int))))))

def wk(n:ai):Option Bool:=
 some (((((((((n.Table==(0:Int))&&((n.Kinds.length:Int)==(0:Int)))&&(!n.Left))&&((n.Cond.Nodes.length:Int)==(0:Int)))&&((n.Keys.length:Int)==(0:Int)))&&((n.Aggs.length:Int)==(0:Int)))&&((n.Items.length:Int)==(0:Int)))&&((n.Order.length:Int)==(0:Int)))&&(n.Limit==(0:Int)))

def wl(n:ai):Option ai:=
  if(n.Op==(1:Int))then
  (some (ai.mk n.Op n.A n.B (0:Int) ([]) n.Left n.Cond n.Keys n.Aggs n.Items n.Order n.Limit))
  else
  (if(n.Op==(2:Int))then
  (some (ai.mk n.Op n.A n.B n.Table n.Kinds false (⟨[]⟩:bA) n.Keys n.Aggs n.Items n.Order n.Limit))
  else
  (if(n.Op==(3:Int))then
  (some (ai.mk n.Op n.A n.B n.Table n.Kinds n.Left (⟨[]⟩:bA) n.Keys n.Aggs n.Items n.Order n.Limit))
  else
  (if(n.Op==(4:Int))then
  (some (ai.mk n.Op n.A n.B n.Table n.Kinds n.Left n.Cond ([]) ([]) n.Items n.Order n.Limit))
  else
  (if(n.Op==(5:Int))then
  (some (ai.mk n.Op n.A n.B n.Table n.Kinds n.Left n.Cond n.Keys n.Aggs ([]) n.Order n.Limit))
  else
  (if(n.Op==(8:Int))then
  (some (ai.mk n.Op n.A n.B n.Table n.Kinds n.Left n.Cond n.Keys n.Aggs n.Items ([]) (0:Int)))
  else
  (some n))))))

def m7(x:Bool):Option Int:=
 if x then
 (some (2:Int))
 else
 (some (1:Int))

def uJ(op:Int):Option Int:=
  if(op==(1:Int))then
  (some (0:Int))
  else
  (if(op==(2:Int))then
  (m7 (op==(2:Int)))
  else
  (m7 (op==(7:Int))))

def mB(c:aB)(i:Int):Option (Int×Bool):=
  (eh c.Logic.Nodes i).bind fun e=>
  (uJ e.Op).bind fun r=>
  if(r==(0:Int))then
  (some (i,((e.A==(-1:Int))&&(e.B==(-1:Int)))))
  else
  (if(r==(1:Int))then
  (if(((e.A !=(IntKind.i64.wrap (i-(1:Int))))||(e.B !=(-1:Int)))||(i==(0:Int)))then
  (some ((0:Int),false))
  else
  ((eh c.first e.A).bind fun e1=>
  some (e1,true)))
  else
  ((if(!((e.B !=(IntKind.i64.wrap (i-(1:Int))))||(i==(0:Int))))then((eh c.first e.B).bind fun e2=>
  some (e.A !=(IntKind.i64.wrap (e2-(1:Int)))))else some true).bind fun t=>
  if(t||(decide (e.A<(0:Int))))then
  (some ((0:Int),false))
  else
  ((eh c.first e.A).bind fun e3=>
  some (e3,true))))

def iy{Sg:Type}(yld:(Int×Bool)→Sg→Option (Bool×Sg))(nx:Nat→Sg→aB→Option (Sg×aB))(i:Nat)(s1:Sg)(ok1:Bool)(kinds:(List Int))(ob2:aB):Option (Sg×aB):=
 (kB ob2.kinds ([kinds])).bind fun l6=>
 (yld ((i:Int),(ok1&&(decide ((kinds.length:Int)≤(16:Int))))) s1).bind fun r2=>
 if((!r2.1)||(!(ok1&&(decide ((kinds.length:Int)≤(16:Int))))))then
 (some (r2.2,({ob2 with kinds:=l6}:aB)))
 else
 (nx (i+1) r2.2 ({ob2 with kinds:=l6}:aB))

def iz{Sg:Type}(yld:(Int×Bool)→Sg→Option (Bool×Sg))(nx:Nat→Sg→aB→Option (Sg×aB))(i:Nat)(e2:ai)(s1:Sg)(ok:Bool)(ob1:aB):Option (Sg×aB):=
  if ok then
  ((((qC (eK (eK (eK (eK (eK (eK (eK (eK ([]:List (Int×(aB→ai→Option (((List Int)×Bool)×aB)))) (1:Int) (fun(mc:aB) (mx:ai)=>(ir mc mx).map fun mr=>(mr,mc))) (2:Int) (fun(mc:aB) (mx:ai)=>(iu mc mx).map fun mr=>(mr,mc))) (3:Int) (fun(mc:aB) (mx:ai)=>(gv mc mx).map fun mr=>(mr,mc))) (4:Int) (fun(mc:aB) (mx:ai)=>(gT mc mx).map fun mr=>(mr,mc))) (5:Int) (fun(mc:aB) (mx:ai)=>(fQ mc mx).map fun mr=>(mr,mc))) (6:Int) (fun(mc:aB) (mx:ai)=>(fx mc mx).map fun mr=>(mr,mc))) (7:Int) (fun(mc:aB) (mx:ai)=>(gR mc mx).map fun mr=>(mr,mc))) (8:Int) (fun(mc:aB) (mx:ai)=>(gS mc mx).map fun mr=>(mr,mc))) e2.Op).getD (fun _ _=>none)) ob1 (e2)).bind fun r3=>
  iy yld nx i s1 r3.1.2 r3.1.1 r3.2)
  else
  (iy yld nx i s1 ok ([]) ob1)

def dQ{Sg:Type}(yld:(Int×Bool)→Sg→Option (Bool×Sg)):List ai→Nat→Sg→aB→Option (Sg×aB)
  |[],i,s1,ob=>
    some (s1,ob)
  |e2::tl,i,s1,ob=>
    (if((qC (eK (eK (eK (eK (eK (eK (eK (eK ([]:List (Int×(aB→ai→Option (((List Int)×Bool)×aB)))) (1:Int) (fun(mc:aB) (mx:ai)=>(ir mc mx).map fun mr=>(mr,mc))) (2:Int) (fun(mc:aB) (mx:ai)=>(iu mc mx).map fun mr=>(mr,mc))) (3:Int) (fun(mc:aB) (mx:ai)=>(gv mc mx).map fun mr=>(mr,mc))) (4:Int) (fun(mc:aB) (mx:ai)=>(gT mc mx).map fun mr=>(mr,mc))) (5:Int) (fun(mc:aB) (mx:ai)=>(fQ mc mx).map fun mr=>(mr,mc))) (6:Int) (fun(mc:aB) (mx:ai)=>(fx mc mx).map fun mr=>(mr,mc))) (7:Int) (fun(mc:aB) (mx:ai)=>(gR mc mx).map fun mr=>(mr,mc))) (8:Int) (fun(mc:aB) (mx:ai)=>(gS mc mx).map fun mr=>(mr,mc))) e2.Op).isSome)then((wl e2).bind fun r=>
    (wk r).bind fun r1=>
    some r1)else some false).bind fun t=>
    if t then
    ((mB ob (i:Int)).bind fun r4=>
    (kB ob.first ([r4.1])).bind fun l7=>
    iz yld (dQ yld tl) i e2 s1 r4.2 ({ob with first:=l7}:aB))
    else
    (iz yld (dQ yld tl) i e2 s1 t ob)

def jV{Sg:Type}(c:aB)(yld:(Int×Bool)→Sg→Option (Bool×Sg))(s:Sg):Option (Sg×aB):=
 dQ yld c.Logic.Nodes 0 s c

def nN(c:aB):Option (Db (Int×Bool) aB):=
 some (fun _=>jV c)

def rE(x:Int×Bool)(x1:Bool)(x2:Int)(p:Bool):Option (Option Nat×(Bool×Int×Bool)):=
 if(!x.2)then
 (some (some 0,(false,x.1,true)))
 else
 (some (none,(x1,x2,p)))

def pn(l:cI):Option (aB×Int×Bool):=
  if((decide ((l.Nodes.length:Int)<(1:Int)))||(decide ((60:Int)<(l.Nodes.length:Int))))then
  (some ((⟨l,[],[]⟩:aB),(0:Int),false))
  else
  ((nN (⟨l,[],[]⟩:aB)).bind fun it=>
  (it (Option Nat×(Bool×Int×Bool)) (wC (fun x s=>rE x s.1 s.2.1 s.2.2)) (none,(false,(0:Int),false))).bind fun r=>
  if r.1.1.isNone then
  ((eh r.2.first (IntKind.i64.wrap ((l.Nodes.length:Int)-(1:Int)))).bind fun e=>
  some (r.2,(IntKind.i64.wrap ((l.Nodes.length:Int)-(1:Int))),(e==(0:Int))))
  else
  ((Mb r.1.2.2.2).bind fun _=>
  some (r.2,r.1.2.2.1,r.1.2.1)))

def uK(l:cI):Option ((List Int)×Int):=
  (pn l).bind fun r=>
  if(!r.2.2)then
  (some ([],(230:Int)))
  else
  ((eh r.1.kinds r.2.1).bind fun e=>
  (cd e).bind fun r1=>
  some (r1,(0:Int)))

def uL(l:cI):Option (Int×Int):=
 (pn l).bind fun r=>
 if(!r.2.2)then
 (some (r.2.1,(230:Int)))
 else
 (some ((0:Int),(0:Int)))

def ue(c:Int):Option Bool:=
 some ((decide ((97:Int)≤c))&&(decide (c≤(122:Int))))

def eM(v:jy):List jy→Nat→Option Int
 |[],i=>
  some (-1:Int)
 |e::tl,i=>
  if(v==e)then
  (some (i:Int))
  else
  ((eM v tl) (i+1))

def ji(s:(List jy))(v:jy):Option Int:=
 eM v s 0

def ig(s:(List jy))(v:jy):Option Bool:=
 (ji s v).bind fun r=>
 some (decide ((0:Int)≤r))

def wn(s:jy):Option Bool:=
 (ig Mc s).bind fun r=>
 some r

def mh(s:jy):Option jy:=if s.length<35184372088832 then some (Lib.toUpperD s)else none

def xO(c:Int):Option Bool:=
 some ((decide ((48:Int)≤c))&&(decide (c≤(57:Int))))

def oq:List (Int×Int)→Option Bool
  |[]=>
    some true
  |e::tl=>
    (xO e.2).bind fun r3=>
    (if(!r3)then((ue e.2).bind fun r4=>
    some (!r4))else some false).bind fun t2=>
    if(t2&&(e.2 !=(95:Int)))then
    (some false)
    else
    ((oq tl))

def pp(s:jy):Option Bool:=
  (if(!((s==([]))||(decide ((16:Int)<(s.length:Int)))))then((IB s (0:Int)).bind fun b=>
  (ue (IntKind.i32.wrap b)).bind fun r=>
  some (!r))else some true).bind fun t=>
  (if(!t)then((mh s).bind fun r1=>
  (wn r1).bind fun r2=>
  some r2)else some true).bind fun t1=>
  if t1 then
  (some false)
  else
  (oq (EO s))

def dq(f:(bX→Option Bool)):List bX→Nat→Option Int
 |[],i=>
  some (-1:Int)
 |e::tl,i=>
  (f e).bind fun r=>
  if r then
  (some (i:Int))
  else
  ((dq f tl) (i+1))

def eN(s:(List bX))(f:(bX→Option Bool)):Option Int:=
 dq f s 0

def fY(of:(bX→Option jy))(name:jy)(p:bX):Option Bool:=
 (of p).bind fun r=>
 some (r==name)

def kA(l:(List bX))(of:(bX→Option jy))(name:jy):Option (Int×Bool):=
 (eN l (fY of name)).bind fun r=>
 some ((max r (0:Int)),decide ((0:Int)≤r))

def fN(l:(List bX))(of:(bX→Option jy)):List bX→Nat→Option Bool
  |[],i=>
    some true
  |e::tl,i=>
    (of e).bind fun r=>
    (kA l of r).bind fun r1=>
    (if(!(r1.1 !=(i:Int)))then((of e).bind fun r2=>
    (pp r2).bind fun r3=>
    some (!r3))else some true).bind fun t=>
    if t then
    (some false)
    else
    ((fN l of tl) (i+1))

def kz(l:(List bX))(of:(bX→Option jy)):Option Bool:=
 fN l of l 0

def nj(c:bX):Option jy:=
 some c.Name

def mv(kind:Int):Nat→Nat→Option jy
 |0,i=>
  some ([])
 |k1+1,i=>
  (eh LU (i:Int)).bind fun e1=>
  if(e1.kind==kind)then
  (some e1.word)
  else
  ((mv kind k1) (i+1))

def tm(kind:Int):Option jy:=
 mv kind 3 0

def iZ(t:ci):List Int→Nat→Bool→Option Int
  |[],i1,ok1=>
    if(!ok1)then
    (some (211:Int))
    else
    (some (0:Int))
  |e1::tl1,i1,ok1=>
    (if((ok1&&(decide ((0:Int)≤e1)))&&(decide (e1<(t.Columns.length:Int))))then((if(!((i1:Int)==(0:Int)))then((eh t.Keys (IntKind.i64.wrap ((i1:Int)-(1:Int)))).bind fun e2=>
    some (decide (e2<e1)))else some true).bind fun t3=>
    some t3)else some false).bind fun t2=>
    (iZ t tl1) (i1+1) t2

def i7(t:ci):List bX→Bool→Option Int
  |[],ok=>
    iZ t t.Keys 0 ok
  |e::tl,ok=>
    (if ok then((tm e.Kind).bind fun r2=>
    some (!(r2==([]))))else some false).bind fun t4=>
    (i7 t tl) t4

def nk(t:ci):Option Int:=
  (pp t.Name).bind fun r=>
  (if((r&&(decide ((1:Int)≤(t.Columns.length:Int))))&&(decide ((t.Columns.length:Int)≤(4:Int))))then((kz t.Columns nj).bind fun r1=>
  some r1)else some false).bind fun t1=>
  i7 t t.Columns t1

def mw(t:ci):Option Bool:=
 (nk t).bind fun r=>
 some (r !=(0:Int))

def dC(f:(ci→Option Bool)):List ci→Nat→Option Int
 |[],i=>
  some (-1:Int)
 |e::tl,i=>
  (f e).bind fun r=>
  if r then
  (some (i:Int))
  else
  ((dC f tl) (i+1))

def dX(s:(List ci))(f:(ci→Option Bool)):Option Int:=
 dC f s 0

def eE(s:(List ci))(f:(ci→Option Bool)):Option Bool:=
 (dX s f).bind fun r=>
 some (decide ((0:Int)≤r))

def gN(of:(ci→Option jy))(name:jy)(p:ci):Option Bool:=
 (of p).bind fun r=>
 some (r==name)

def ld(l:(List ci))(of:(ci→Option jy))(name:jy):Option (Int×Bool):=
 (dX l (gN of name)).bind fun r=>
 some ((max r (0:Int)),decide ((0:Int)≤r))

def fX(l:(List ci))(of:(ci→Option jy)):List ci→Nat→Option Bool
  |[],i=>
    some true
  |e::tl,i=>
    (of e).bind fun r=>
    (ld l of r).bind fun r1=>
    (if(!(r1.1 !=(i:Int)))then((of e).bind fun r2=>
    (pp r2).bind fun r3=>
    some (!r3))else some true).bind fun t=>
    if t then
    (some false)
    else
    ((fX l of tl) (i+1))

def lc(l:(List ci))(of:(ci→Option jy)):Option Bool:=
 fX l of l 0

def nZ(t:ci):Option jy:=
 some t.Name

def rJ(c:fi):Option Int:=
  (if(!(decide ((4:Int)<(c.Tables.length:Int))))then((eE c.Tables mw).bind fun r=>
  some r)else some true).bind fun t=>
  (if(!t)then((lc c.Tables nZ).bind fun r1=>
  some (!r1))else some true).bind fun t1=>
  if t1 then
  (some (210:Int))
  else
  (some (0:Int))

def g9(s2:(List Int)):List Int→Nat→Option Bool
 |[],i=>
  some true
 |e::tl,i=>
  (eh s2 (i:Int)).bind fun e1=>
  if(e !=e1)then
  (some false)
  else
  ((g9 s2 tl) (i+1))

def gk(s1:(List Int))(s2:(List Int)):Option Bool:=
 if((s1.length:Int) !=(s2.length:Int))then
 (some false)
 else
 (g9 s2 s1 0)

def oh(nx:Option Bool):Option Bool:=
 nx

def oe(nx:Option Bool)(e:ai):List bX→(List Int)→Option Bool
 |[],kinds=>
  (gk kinds e.Kinds).bind fun r=>
  if(!r)then
  (some false)
  else
  (oh nx)
 |e2::tl1,kinds=>
  (kB kinds ([e2.Kind])).bind fun kinds1=>
  (oe nx e tl1) kinds1

def iK(c:fi):List ai→Option Bool
  |[]=>
    some true
  |e::tl=>
    if(e.Op !=(1:Int))then
    (oh (iK c tl))
    else
    (if(decide ((c.Tables.length:Int)≤e.Table))then
    (some false)
    else
    ((eh c.Tables e.Table).bind fun e1=>
    oe (iK c tl) e e1.Columns ([]:List Int)))

def v7(l:cI)(c:fi):Option Bool:=
 iK c l.Nodes

def ea(s:(List jP)):Option (List jP):=
 (kB ([]:List jP) s).bind fun x=>
 some x

def ck(s:(List bT)):Option (List bT):=
 (kB ([]:List bT) s).bind fun x=>
 some x

def eY(s:(List kF)):Option (List kF):=
 (kB ([]:List kF) s).bind fun x=>
 some x

def ev(s:(List bA)):Option (List bA):=
 (kB ([]:List bA) s).bind fun x=>
 some x

def ml:List bA→Nat→ai→Option ai
 |[],i1,n4=>
  some n4
 |e1::tl1,i1,n4=>
  (eh n4.Items (i1:Int)).bind fun e2=>
  (ck e2.Nodes).bind fun r6=>
  (some (n4.Items.set (i1:Int).toNat ({e2 with Nodes:=r6}:bA))).bind fun st=>
  (ml tl1) (i1+1) ({n4 with Items:=st}:ai)

def mn:List kF→Nat→ai→Option ai
 |[],i,n3=>
  ml n3.Items 0 n3
 |e::tl,i,n3=>
  (eh n3.Aggs (i:Int)).bind fun e3=>
  (ck e3.Arg.Nodes).bind fun r7=>
  (some (n3.Aggs.set (i:Int).toNat ({e3 with Arg:=({e3.Arg with Nodes:=r7}:bA)}:kF))).bind fun st1=>
  (mn tl) (i+1) ({n3 with Aggs:=st1}:ai)

def mo(n2:ai):Option ai:=
 (cd n2.Kinds).bind fun r=>
 (cd n2.Keys).bind fun r1=>
 (ea n2.Order).bind fun r2=>
 (ck (((ai.mk n2.Op n2.A n2.B n2.Table r n2.Left n2.Cond r1 n2.Aggs n2.Items r2 n2.Limit).Cond).Nodes)).bind fun r3=>
 (eY (({(ai.mk n2.Op n2.A n2.B n2.Table r n2.Left n2.Cond r1 n2.Aggs n2.Items r2 n2.Limit)with Cond:=({(ai.mk n2.Op n2.A n2.B n2.Table r n2.Left n2.Cond r1 n2.Aggs n2.Items r2 n2.Limit).Cond with Nodes:=r3}:bA)}:ai).Aggs)).bind fun r4=>
 (ev (({(ai.mk n2.Op n2.A n2.B n2.Table r n2.Left n2.Cond r1 n2.Aggs n2.Items r2 n2.Limit)with Cond:=({(ai.mk n2.Op n2.A n2.B n2.Table r n2.Left n2.Cond r1 n2.Aggs n2.Items r2 n2.Limit).Cond with Nodes:=r3}:bA)}:ai).Items)).bind fun r5=>
 mn r4 0 ({({({(ai.mk n2.Op n2.A n2.B n2.Table r n2.Left n2.Cond r1 n2.Aggs n2.Items r2 n2.Limit)with Cond:=({(ai.mk n2.Op n2.A n2.B n2.Table r n2.Left n2.Cond r1 n2.Aggs n2.Items r2 n2.Limit).Cond with Nodes:=r3}:bA)}:ai)with Aggs:=r4}:ai)with Items:=r5}:ai)

def mp(by1:Int)(n1:ai):Option ai:=
 if(decide ((0:Int)≤n1.B))then
 (mo (ai.mk n1.Op n1.A (IntKind.i64.wrap (n1.B+by1)) n1.Table n1.Kinds n1.Left n1.Cond n1.Keys n1.Aggs n1.Items n1.Order n1.Limit))
 else
 (mo n1)

def sT(n:ai)(by1:Int):Option ai:=
 if(decide ((0:Int)≤n.A))then
 (mp by1 (ai.mk n.Op (IntKind.i64.wrap (n.A+by1)) n.B n.Table n.Kinds n.Left n.Cond n.Keys n.Aggs n.Items n.Order n.Limit))
 else
 (mp by1 n)

def oo(l:cI)(place:Int)(e:Int):Nat→Int→cI→Option (cI×Int)
  |0,_,_=>none
  |n+1,i,out=>
    if(decide (i≤place))then
    ((eh l.Nodes i).bind fun e1=>
    (sT e1 (IntKind.i64.wrap (0-e))).bind fun r1=>
    (kB out.Nodes ([r1])).bind fun l2=>
    (oo l place e n) (IntKind.i64.wrap (i+(1:Int))) ({out with Nodes:=l2}:cI))
    else
    (some (out,(0:Int)))

def wm(l:cI)(place:Int):Option (cI×Int):=
  (pn l).bind fun r=>
  if(!r.2.2)then
  (some ((⟨[]⟩:cI),(230:Int)))
  else
  (if((decide (place<(0:Int)))||(decide ((l.Nodes.length:Int)≤place)))then
  (some ((⟨[]⟩:cI),(2:Int)))
  else
  ((eh r.1.first place).bind fun e=>
  oo l place e kp e ({(⟨[]⟩:cI)with Nodes:=([]:List ai)}:cI)))

def jk(p:aD)(s:bb)(cols:(List Int))(l:List cz)(r1:(List Int))(at1:Int):Option (bb×aD):=
 some ((⟨[(⟨(9:Int),(-1:Int),(-1:Int),(IntKind.i64.wrap ((l.length:Int)-(1:Int))),r1,false,(⟨[]⟩:bA),[],[],[],[],(0:Int)⟩:ai)],s.kinds,at1,cols⟩:bb),({p with Plan:=({p.Plan with Frags:=l}:bI)}:aD))

def dA(p:aD)(s:bb)(way:Int)(cols:(List Int)):Option (bb×aD):=
 (cd cols).bind fun r=>
 (kB p.Plan.Frags ([(⟨s.nodes,s.at_,way,r⟩:cz)])).bind fun l=>
 (cd s.kinds).bind fun r1=>
 if(way==(3:Int))then
 (jk p s cols l r1 (2:Int))
 else
 (jk p s cols l r1 (1:Int))

def eA(p:aD)(s:bb):Option (bb×aD):=
  if(s.at_==(2:Int))then
  (some (s,p))
  else
  ((dA p s (3:Int) ([])).bind fun r=>
  some (r.1,r.2))

def kV(p:aD)(n:ai)(kinds:(List Int))(x:(List bb)):Option bb:=
 (eh p.catalog.Tables n.Table).bind fun e=>
 some (⟨[n],kinds,(1:Int),e.Keys⟩:bb)

def ei(s:(List ai)):Option (List ai):=
 (kB ([]:List ai) s).bind fun x=>
 some x

def pj(nx1:bb→Option bb)(out1:bb)(x1:ai):Option bb:=
 (kB out1.nodes ([x1])).bind fun l6=>
 nx1 ({out1 with nodes:=l6}:bb)

def pk(out:bb)(nx1:bb→Option bb)(out1:bb)(x:ai):Option bb:=
 if(decide ((0:Int)≤x.B))then
 (pj nx1 out1 (ai.mk x.Op x.A (IntKind.i64.wrap (x.B+(out.nodes.length:Int))) x.Table x.Kinds x.Left x.Cond x.Keys x.Aggs x.Items x.Order x.Limit))
 else
 (pj nx1 out1 x)

def jF(nx:Nat→ai→bb→Option bb)(i:Nat)(n1:ai)(out:bb):List ai→bb→Option bb
 |[],out1=>
  if((i:Int)==(0:Int))then
  (nx (i+1) (ai.mk n1.Op (IntKind.i64.wrap ((out1.nodes.length:Int)-(1:Int))) n1.B n1.Table n1.Kinds n1.Left n1.Cond n1.Keys n1.Aggs n1.Items n1.Order n1.Limit) out1)
  else
  (nx (i+1) (ai.mk n1.Op n1.A (IntKind.i64.wrap ((out1.nodes.length:Int)-(1:Int))) n1.Table n1.Kinds n1.Left n1.Cond n1.Keys n1.Aggs n1.Items n1.Order n1.Limit) out1)
 |e2::tl1,out1=>
  if(decide ((0:Int)≤e2.A))then
  (pk out (jF nx i n1 out tl1) out1 (ai.mk e2.Op (IntKind.i64.wrap (e2.A+(out.nodes.length:Int))) e2.B e2.Table e2.Kinds e2.Left e2.Cond e2.Keys e2.Aggs e2.Items e2.Order e2.Limit))
  else
  (pk out (jF nx i n1 out tl1) out1 e2)

def jG:List bb→Nat→ai→bb→Option bb
 |[],i,n1,out=>
  (kB out.nodes ([n1])).bind fun l2=>
  some ({out with nodes:=l2}:bb)
 |e1::tl,i,n1,out=>
  (ei e1.nodes).bind fun r=>
  jF (jG tl) i n1 out r out

def eB(n:ai)(kinds:(List Int))(l:(List bb)):Option bb:=
 (eh l (0:Int)).bind fun e=>
 jG l 0 (ai.mk n.Op (-1:Int) (-1:Int) n.Table n.Kinds n.Left n.Cond n.Keys n.Aggs n.Items n.Order n.Limit) ({(⟨[],kinds,e.at_,[]⟩:bb)with nodes:=([]:List ai)}:bb)

def ej(s:bb)(columns:(List Int)):Option bb:=
 some (bb.mk s.nodes s.kinds s.at_ columns)

def jU(p:aD)(n:ai)(kinds:(List Int))(l:(List bb)):Option bb:=
 (eh l (0:Int)).bind fun e=>
 (eB n kinds ([e])).bind fun r=>
 (ej r e.hashed).bind fun r1=>
 some r1

def gZ(v:Int):List Int→Nat→Option Int
 |[],i=>
  some (-1:Int)
 |e::tl,i=>
  if(v==e)then
  (some (i:Int))
  else
  ((gZ v tl) (i+1))

def lW(s:(List Int))(v:Int):Option Int:=
 gZ v s 0

def m3(of:(List Int))(among:(List Int)):List Int→(List Int)→Option ((List Int)×Bool)
  |[],out=>
    some (out,decide ((0:Int)<(of.length:Int)))
  |e::tl,out=>
    (lW among e).bind fun r=>
    if(decide (r<(0:Int)))then
    (some ([],false))
    else
    ((kB out ([r])).bind fun out1=>
    (m3 of among tl) out1)

def nJ(of:(List Int))(among:(List Int)):Option ((List Int)×Bool):=
 m3 of among of ([]:List Int)

def eU(n:ai)(kinds:(List Int))(l:(List bb)):List bA→Nat→(List Int)→Option bb
  |[],i1,bare=>
    (eh l (0:Int)).bind fun e1=>
    (nJ e1.hashed bare).bind fun r=>
    (eB n kinds ([e1])).bind fun r1=>
    (ej r1 r.1).bind fun r2=>
    some r2
  |e::tl,i1,bare=>
    (eh bare (i1:Int)).bind fun e2=>
    (some (bare.set (i1:Int).toNat (-1:Int))).bind fun st=>
    (if((e.Nodes.length:Int)==(1:Int))then((eh e.Nodes (0:Int)).bind fun e3=>
    some (e3.Tag==(2:Int)))else some false).bind fun t=>
    if t then
    ((eh e.Nodes (0:Int)).bind fun e4=>
    (eh st (i1:Int)).bind fun e5=>
    (some (st.set (i1:Int).toNat e4.Col)).bind fun st1=>
    (eU n kinds l tl) (i1+1) st1)
    else
    ((eU n kinds l tl) (i1+1) st)

def jl(p:aD)(n:ai)(kinds:(List Int))(l:(List bb)):Option bb:=
 (tJ (n.Items.length:Int) (0:Int)).bind fun mk=>
 eU n kinds l n.Items 0 mk

def dD(f:(bT→Option Bool)):List bT→Nat→Option Int
 |[],i=>
  some (-1:Int)
 |e::tl,i=>
  (f e).bind fun r=>
  if r then
  (some (i:Int))
  else
  ((dD f tl) (i+1))

def ff(s:(List bT))(f:(bT→Option Bool)):Option Int:=
 dD f s 0

def eF(s:(List bT))(f:(bT→Option Bool)):Option Bool:=
 (ff s f).bind fun r=>
 some (decide ((0:Int)≤r))

def uR(n:bT):Option Bool:=
 (mu n.Tag).bind fun r=>
 some r

def xS(e:bA):Option Bool:=
  (nh e).bind fun r=>
  (if(r==(0:Int))then((eF e.Nodes uR).bind fun r1=>
  some (!r1))else some false).bind fun t=>
  some t

def pH(nx:(List bA)→(List Int)→Option (List bA))(out1:List bA)(open2:List Int):Option (List bA):=
 nx out1 open2

def pG(e3:Int)(nx1:Nat→bA→Option (List bA))(i:Nat)(part1:bA):Option (List bA):=
  (eh part1.Nodes (i:Int)).bind fun e6=>
  if(decide ((0:Int)≤e6.R))then
  ((some (part1.Nodes.set (i:Int).toNat ({e6 with R:=(IntKind.i64.wrap (e6.R-e3))}:bT))).bind fun st=>
  nx1 (i+1) ({part1 with Nodes:=st}:bA))
  else
  (nx1 (i+1) part1)

def la(nx:(List bA)→(List Int)→Option (List bA))(out:List bA)(y:List Int)(e3:Int):List bT→Nat→bA→Option (List bA)
  |[],i,part=>
    (kB out ([part])).bind fun out2=>
    pH nx out2 y
  |e4::tl,i,part=>
    (eh part.Nodes (i:Int)).bind fun e5=>
    if(decide ((0:Int)≤e5.L))then
    ((some (part.Nodes.set (i:Int).toNat ({e5 with L:=(IntKind.i64.wrap (e5.L-e3))}:bT))).bind fun st1=>
    pG e3 (la nx out y e3 tl) i ({part with Nodes:=st1}:bA))
    else
    (pG e3 (la nx out y e3 tl) i part)

def iB(e:bA)(r:(List Int)×Bool):Nat→(List bA)→(List Int)→Option (List bA)
  |0,_,_=>none
  |n+1,out,open1=>
    if(decide ((0:Int)<(open1.length:Int)))then
    ((eh open1 (IntKind.i64.wrap ((open1.length:Int)-(1:Int)))).bind fun e1=>
    (dw open1 0 (IntKind.i64.wrap ((open1.length:Int)-(1:Int)))).bind fun y=>
    (eh e.Nodes e1).bind fun e2=>
    if(e2.Tag==(22:Int))then
    ((kB y ([e2.R,e2.L])).bind fun open3=>
    pH (iB e r n) out open3)
    else
    ((eh r.1 e1).bind fun e3=>
    (dw e.Nodes e3 (IntKind.i64.wrap (e1+(1:Int)))).bind fun y1=>
    (ck y1).bind fun r1=>
    la (iB e r n) out y e3 r1 0 ({(⟨r1⟩:bA)with Nodes:=r1}:bA)))
    else
    (some out)

def xV(e:bA):Option (List bA):=
 (qN e).bind fun r=>
 if(!r.2)then
 (some ([]:List bA))
 else
 (iB e r kp ([]:List bA) ([(IntKind.i64.wrap ((e.Nodes.length:Int)-(1:Int)))]))

def xT(e:bA)(left:Int):Option (Int×Int×Bool):=
  (nh e).bind fun r=>
  (if(!((r !=(0:Int))||((e.Nodes.length:Int) !=(3:Int))))then((eh e.Nodes (2:Int)).bind fun e1=>
  some (e1.Tag !=(16:Int)))else some true).bind fun t=>
  if t then
  (some ((0:Int),(0:Int),false))
  else
  ((eh e.Nodes (0:Int)).bind fun e2=>
  (eh e.Nodes (1:Int)).bind fun e3=>
  if((e2.Tag !=(2:Int))||(e3.Tag !=(2:Int)))then
  (some ((0:Int),(0:Int),false))
  else
  (if((decide (left≤(min e2.Col e3.Col)))||(decide ((max e2.Col e3.Col)<left)))then
  (some ((0:Int),(0:Int),false))
  else
  (some ((min e2.Col e3.Col),(IntKind.i64.wrap ((max e2.Col e3.Col)-left)),true))))

def lQ(nx:(List Int)→(List Int)→Option ((List Int)×(List Int)))(a2:List Int)(b1:List Int):Option ((List Int)×(List Int)):=
 nx a2 b1

def iL(left:Int):List bA→(List Int)→(List Int)→Option ((List Int)×(List Int))
  |[],a1,b=>
    some (a1,b)
  |e::tl,a1,b=>
    (xT e left).bind fun r1=>
    if(!r1.2.2)then
    ((xS e).bind fun r2=>
    if(!r2)then
    (some ([],[]))
    else
    (lQ (iL left tl) a1 b))
    else
    (if(decide ((a1.length:Int)<(16:Int)))then
    ((kB a1 ([r1.1])).bind fun a3=>
    (kB b ([r1.2.1])).bind fun b3=>
    lQ (iL left tl) a3 b3)
    else
    (lQ (iL left tl) a1 b))

def wa(cond:bA)(left:Int):Option ((List Int)×(List Int)):=
 (xV cond).bind fun r=>
 iL left r ([]:List Int) ([]:List Int)

def lx(other:(List Int))(r:(List Int)×Bool):List Int→(List Int)→Option ((List Int)×Bool)
 |[],out=>
  some (out,r.2)
 |e::tl,out=>
  (eh other e).bind fun e1=>
  (kB out ([e1])).bind fun out1=>
  (lx other r tl) out1

def oj(of:(List Int))(among:(List Int))(other:(List Int)):Option ((List Int)×Bool):=
 (nJ of among).bind fun r=>
 lx other r r.1 ([]:List Int)

def eO(n:ai)(kinds:(List Int))(a1:bb)(b2:bb)(ob:aD):Option (bb×aD):=
 (eB n kinds ([a1,b2])).bind fun r7=>
 (ej r7 a1.hashed).bind fun r8=>
 some (r8,ob)

def kW(p:aD)(n:ai)(kinds:(List Int))(l:(List bb)):Option (bb×aD):=
  (eh l (0:Int)).bind fun e=>
  (eh l (1:Int)).bind fun e1=>
  if((e.at_==(2:Int))||(e1.at_==(2:Int)))then
  ((eA p e).bind fun r=>
  (eA r.2 e1).bind fun r1=>
  (eB n kinds ([r.1,r1.1])).bind fun r2=>
  some (r2,r1.2))
  else
  ((wa n.Cond (e.kinds.length:Int)).bind fun r3=>
  if((r3.1.length:Int)==(0:Int))then
  ((dA p e1 (2:Int) ([])).bind fun r4=>
  (eB n kinds ([e,r4.1])).bind fun r5=>
  (ej r5 e.hashed).bind fun r6=>
  some (r6,r4.2))
  else
  ((oj e.hashed r3.1 r3.2).bind fun r9=>
  if r9.2 then
  ((gk e1.hashed r9.1).bind fun r10=>
  if(!r10)then
  ((dA p e1 (1:Int) r9.1).bind fun r11=>
  eO n kinds e r11.1 r11.2)
  else
  (eO n kinds e e1 p))
  else
  ((oj e1.hashed r3.2 r3.1).bind fun r12=>
  if r12.2 then
  ((dA p e (1:Int) r12.1).bind fun r13=>
  eO n kinds r13.1 e1 r13.2)
  else
  ((dA p e (1:Int) r3.1).bind fun r14=>
  (dA r14.2 e1 (1:Int) r3.2).bind fun r15=>
  eO n kinds r14.1 r15.1 r15.2))))

def jE(n:Int):Nat→(List Int)→Int→Option (List Int)
  |0,_,_=>none
  |n1+1,out,x=>
    if(decide (x<n))then
    ((kB out ([x])).bind fun out1=>
    (jE n n1) out1 (IntKind.i64.wrap (x+(1:Int))))
    else
    (some out)

def oG(n:Int):Option (List Int):=
 jE n kp ([]:List Int) (0:Int)

def ka(n:ai):List kF→Nat→(List Int)→Option (List Int)
  |[],i,out=>
    some out
  |e::tl,i,out=>
    if(e.Tag==(3:Int))then
    ((eh out (IntKind.i64.wrap ((n.Keys.length:Int)+(i:Int)))).bind fun e1=>
    (some (out.set (IntKind.i64.wrap ((n.Keys.length:Int)+(i:Int))).toNat (4:Int))).bind fun st=>
    (ka n tl) (i+1) st)
    else
    ((ka n tl) (i+1) out)

def pi(n:ai)(kinds:(List Int)):Option (List Int):=
 (cd kinds).bind fun r=>
 ka n n.Aggs 0 r

def iV(kinds:(List Int))(r4:(List Int))(r7:bb×aD):List kF→ai→Option (bb×aD)
 |[],last=>
  (eB last kinds ([r7.1])).bind fun r8=>
  (ej r8 r4).bind fun r9=>
  some (r9,r7.2)
 |e1::tl,last=>
  (kB last.Aggs ([(⟨e1.Tag,(⟨[]⟩:bA)⟩:kF)])).bind fun l3=>
  (iV kinds r4 r7 tl) ({last with Aggs:=l3}:ai)

def iW(p:aD)(n:ai)(kinds:(List Int))(e:bb)(r4:(List Int))(way:Int):Option (bb×aD):=
 (pi (ai.mk (10:Int) n.A n.B n.Table n.Kinds n.Left n.Cond n.Keys n.Aggs n.Items n.Order n.Limit) kinds).bind fun r5=>
 (eB (ai.mk (10:Int) n.A n.B n.Table n.Kinds n.Left n.Cond n.Keys n.Aggs n.Items n.Order n.Limit) r5 ([e])).bind fun r6=>
 (dA p r6 way r4).bind fun r7=>
 iV kinds r4 r7 n.Aggs ({(⟨(11:Int),(0:Int),(0:Int),(0:Int),[],false,(⟨[]⟩:bA),r4,[],[],[],(0:Int)⟩:ai)with Aggs:=([]:List kF)}:ai)

def kh(p:aD)(n:ai)(kinds:(List Int))(l:(List bb)):Option (bb×aD):=
  (eh l (0:Int)).bind fun e=>
  if(e.at_==(2:Int))then
  ((eB n kinds ([e])).bind fun r=>
  some (r,p))
  else
  ((nJ e.hashed n.Keys).bind fun r1=>
  if r1.2 then
  ((eB n kinds ([e])).bind fun r2=>
  (ej r2 r1.1).bind fun r3=>
  some (r3,p))
  else
  ((oG (n.Keys.length:Int)).bind fun r4=>
  if((r4.length:Int)==(0:Int))then
  (iW p n kinds e r4 (3:Int))
  else
  (iW p n kinds e r4 (1:Int))))

def iX(p:aD)(n:ai)(kinds:(List Int))(l:(List bb)):Option (bb×aD):=
  (eh l (0:Int)).bind fun e=>
  if((e.at_==(2:Int))||(decide ((0:Int)<(e.hashed.length:Int))))then
  ((eB n kinds ([e])).bind fun r=>
  (ej r e.hashed).bind fun r1=>
  some (r1,p))
  else
  ((oG (kinds.length:Int)).bind fun r2=>
  (dA p e (1:Int) r2).bind fun r3=>
  (eB n kinds ([r3.1])).bind fun r4=>
  (ej r4 r2).bind fun r5=>
  some (r5,r3.2))

def iT(ob:aD)(out:bb):Option (bb×aD):=
 some (out,ob)

def iU(n:ai)(kinds:(List Int))(a1:bb)(b2:bb)(ob:aD):Option (bb×aD):=
  (eB n kinds ([a1,b2])).bind fun r=>
  (if(a1.at_==(1:Int))then((gk a1.hashed b2.hashed).bind fun r1=>
  some r1)else some false).bind fun t=>
  if t then
  (iT ob (bb.mk r.nodes r.kinds r.at_ a1.hashed))
  else
  (iT ob r)

def kf(p:aD)(n:ai)(kinds:(List Int))(l:(List bb)):Option (bb×aD):=
  (eh l (0:Int)).bind fun e=>
  (eh l (1:Int)).bind fun e1=>
  if(e.at_ !=e1.at_)then
  ((eA p e).bind fun r2=>
  (eA r2.2 e1).bind fun r3=>
  iU n kinds r2.1 r3.1 r3.2)
  else
  (iU n kinds e e1 p)

def kg(p:aD)(n:ai)(kinds:(List Int))(l:(List bb)):Option (bb×aD):=
  (eh l (0:Int)).bind fun e=>
  (eB n kinds ([e])).bind fun r=>
  if(r.at_==(2:Int))then
  (some (r,p))
  else
  ((eA p r).bind fun r1=>
  (eB n kinds ([r1.1])).bind fun r2=>
  some (r2,r1.2))

def gq(self__:aD→Int→Option (bb×aD))(at1:Int)(e:ai):Nat→Nat→(List bb)→aD→Option (bb×aD)
  |0,i,parts,ob=>
    (eh ob.kinds at1).bind fun e2=>
    (((qC (eK (eK (eK (eK (eK (eK (eK (eK ([]:List (Int×(aD→(ai×(List Int)×(List bb))→Option (bb×aD)))) (1:Int) (fun(mc:aD) (mx:ai×(List Int)×(List bb))=>(kV mc mx.1 mx.2.1 mx.2.2).map fun mr=>(mr,mc))) (3:Int) (fun(mc:aD) (mx:ai×(List Int)×(List bb))=>(jU mc mx.1 mx.2.1 mx.2.2).map fun mr=>(mr,mc))) (5:Int) (fun(mc:aD) (mx:ai×(List Int)×(List bb))=>(jl mc mx.1 mx.2.1 mx.2.2).map fun mr=>(mr,mc))) (2:Int) (fun(mc:aD) (mx:ai×(List Int)×(List bb))=>kW mc mx.1 mx.2.1 mx.2.2)) (4:Int) (fun(mc:aD) (mx:ai×(List Int)×(List bb))=>kh mc mx.1 mx.2.1 mx.2.2)) (6:Int) (fun(mc:aD) (mx:ai×(List Int)×(List bb))=>iX mc mx.1 mx.2.1 mx.2.2)) (7:Int) (fun(mc:aD) (mx:ai×(List Int)×(List bb))=>kf mc mx.1 mx.2.1 mx.2.2)) (8:Int) (fun(mc:aD) (mx:ai×(List Int)×(List bb))=>kg mc mx.1 mx.2.1 mx.2.2)) e.Op).getD (fun _ _=>none)) ob (e,e2,parts)).bind fun r=>
    some (r.1,r.2)
  |k1+1,i,parts,ob=>
    (eh ([e.A,e.B]) (i:Int)).bind fun e3=>
    if(decide ((0:Int)≤e3))then
    ((self__ ob e3).bind fun r1=>
    (kB parts ([r1.1])).bind fun parts1=>
    (gq self__ at1 e k1) (i+1) parts1 r1.2)
    else
    ((gq self__ at1 e k1) (i+1) parts ob)

def gQ:Nat→aD→Int→Option (bb×aD)
 |0,_,_=>none
 |fu+1,p,at1=>
  (eh p.tree.Nodes at1).bind fun e=>
  gq (gQ fu) at1 e 2 0 ([]:List bb) p

def nI(p:aD)(at1:Int):Option (bb×aD):=
 gQ kp p at1

def qy(f:cz):Option Bool:=
 some (decide ((60:Int)<(f.Nodes.length:Int)))

def dN(f:(cz→Option Bool)):List cz→Nat→Option Int
 |[],i=>
  some (-1:Int)
 |e::tl,i=>
  (f e).bind fun r=>
  if r then
  (some (i:Int))
  else
  ((dN f tl) (i+1))

def fH(s:(List cz))(f:(cz→Option Bool)):Option Int:=
 dN f s 0

def eT(s:(List cz))(f:(cz→Option Bool)):Option Bool:=
 (fH s f).bind fun r=>
 some (decide ((0:Int)≤r))

def pl(l:cI):List ai→Nat→aD→Option (bI×Int)
  |[],i,ob=>
    (nI ob (IntKind.i64.wrap ((l.Nodes.length:Int)-(1:Int)))).bind fun r3=>
    (eA r3.2 r3.1).bind fun r4=>
    (kB r4.2.Plan.Frags ([(⟨r4.1.nodes,(2:Int),(4:Int),[]⟩:cz)])).bind fun l3=>
    (if(!(decide ((30:Int)<(l3.length:Int))))then((eT l3 qy).bind fun r5=>
    some r5)else some true).bind fun t=>
    if t then
    (some ((⟨[]⟩:bI),(3:Int)))
    else
    (some (({r4.2 with Plan:=({r4.2.Plan with Frags:=l3}:bI)}:aD).Plan,(0:Int)))
  |e::tl,i,ob=>
    (wm l (i:Int)).bind fun r6=>
    (uK r6.1).bind fun r7=>
    (kB ob.kinds ([r7.1])).bind fun l4=>
    (pl l tl) (i+1) ({ob with kinds:=l4}:aD)

def xD(l:cI)(c:fi):Option (bI×Int):=
  (uL l).bind fun r=>
  if(r.2 !=(0:Int))then
  (some ((⟨[]⟩:bI),r.2))
  else
  ((rJ c).bind fun r1=>
  if(r1 !=(0:Int))then
  (some ((⟨[]⟩:bI),r1))
  else
  ((v7 l c).bind fun r2=>
  if(!r2)then
  (some ((⟨[]⟩:bI),(2:Int)))
  else
  (pl l l.Nodes 0 (⟨(⟨[]⟩:bI),l,c,[]⟩:aD))))

def gF(p:bI)(frag:Int)(nodes:Int):Option Int:=
 if(((((decide ((30:Int)<(p.Frags.length:Int)))||(decide (frag<(0:Int))))||(decide ((p.Frags.length:Int)≤frag)))||(decide (nodes<(1:Int))))||(decide ((8:Int)<nodes)))then
 (some (2:Int))
 else
 (some (0:Int))

def fD{Sg:Type}(from1:Int)(yld:(Int×Int)→Sg→Option (Bool×Sg))(nx:Nat→Sg→Option Sg)(i:Nat):List ai→Nat→Sg→Option Sg
  |[],i1,s2=>
    nx (i+1) s2
  |e4::tl1,i1,s2=>
    if((e4.Op==(9:Int))&&(e4.Table==from1))then
    ((yld ((i:Int),(i1:Int)) s2).bind fun r=>
    if(!r.1)then
    (some r.2)
    else
    ((fD from1 yld nx i tl1) (i1+1) r.2))
    else
    ((fD from1 yld nx i tl1) (i1+1) s2)

def fE{Sg:Type}(from1:Int)(yld:(Int×Int)→Sg→Option (Bool×Sg)):List cz→Nat→Sg→Option Sg
 |[],i,s1=>
  some s1
 |e2::tl,i,s1=>
  fD from1 yld (fE from1 yld tl) i e2.Nodes 0 s1

def od{Sg:Type}(p:bI)(from1:Int)(yld:(Int×Int)→Sg→Option (Bool×Sg))(s:Sg):Option Sg:=
 fE from1 yld p.Frags 0 s

def nG(p:bI)(from1:Int):Option (It (Int×Int)):=
 some (fun _=>od p from1)

def qw(x:Int×Int)(x1:Bool)(x2:Int)(x3:Int):Option (Option Nat×(Bool×Int×Int)):=
 some (some 0,(true,x.2,x.1))

def nH(p:bI)(from1:Int):Option (Int×Int×Bool):=
 (nG p from1).bind fun it=>
 ((itU it) (Option Nat×(Bool×Int×Int)) (wC (fun x s=>qw x s.1 s.2.1 s.2.2)) (none,(false,(0:Int),(0:Int)))).bind fun r=>
 if r.1.1.isNone then
 (some ((0:Int),(0:Int),false))
 else
 (some (r.1.2.2.2,r.1.2.2.1,r.1.2.1))

def l0(p:bI)(frag:Int):Option Int:=
 (nH p frag).bind fun r=>
 if r.2.2 then
 (some r.1)
 else
 (some (-1:Int))

def lw(f:cz)(nodes:Int):Option (List Int):=
  if(f.At==(2:Int))then
  (some ([(0:Int)]))
  else
  ((oG (IntKind.i64.wrap (nodes+(1:Int)))).bind fun r=>
  (dw r (1:Int) (r.length:Int)).bind fun y=>
  some y)

def ol{Sg:Type}(nx:Nat→Sg→Option Sg)(i:Nat)(s2:Sg):Option Sg:=
 nx (i+1) s2

def j4{Sg:Type}(yld:(aN×Int)→Sg→Option (Bool×Sg))(i:Nat)(r:Int)(nx1:Sg→Option Sg)(e5:Int):List Int→Sg→Option Sg
 |[],s4=>
  nx1 s4
 |e8::tl2,s4=>
  (yld ((⟨(i:Int),e5,e8⟩:aN),r) s4).bind fun r3=>
  if(!r3.1)then
  (some r3.2)
  else
  ((j4 yld i r nx1 e5 tl2) r3.2)

def iM{Sg:Type}(p:bI)(nodes:Int)(yld:(aN×Int)→Sg→Option (Bool×Sg))(nx:Nat→Sg→Option Sg)(i:Nat)(r:Int):List Int→Sg→Option Sg
 |[],s3=>
  ol nx i s3
 |e5::tl1,s3=>
  (eh p.Frags r).bind fun e6=>
  (lw e6 nodes).bind fun r2=>
  j4 yld i r (iM p nodes yld nx i r tl1) e5 r2 s3

def eI{Sg:Type}(p:bI)(nodes:Int)(yld:(aN×Int)→Sg→Option (Bool×Sg)):List cz→Nat→Sg→Option Sg
  |[],i,s1=>
    some s1
  |e2::tl,i,s1=>
    (l0 p (i:Int)).bind fun r=>
    if(decide (r<(0:Int)))then
    (ol (eI p nodes yld tl) i s1)
    else
    ((lw e2 nodes).bind fun r1=>
    iM p nodes yld (eI p nodes yld tl) i r r1 s1)

def sf{Sg:Type}(p:bI)(nodes:Int)(yld:(aN×Int)→Sg→Option (Bool×Sg))(s:Sg):Option Sg:=
 eI p nodes yld p.Frags 0 s

def sN(p:bI)(nodes:Int):Option (It (aN×Int)):=
 some (fun _=>sf p nodes)

def gp(holds:(aN→Int→Option Bool))(x:aN×Int)(xs:List aN):Option (List aN):=
  (holds x.1 x.2).bind fun r=>
  if r then
  ((kB xs ([x.1])).bind fun l1=>
  some l1)
  else
  (some xs)

def mP(p:bI)(nodes:Int)(holds:(aN→Int→Option Bool)):Option (List aN):=
 (sN p nodes).bind fun it=>
 (it (List aN) (qR (fun x s=>gp holds x s)) ([]:List aN)).bind fun xs1=>
 some xs1

def qx(p:aN)(p1:Int):Option Bool:=
 some true

def im(p:bI)(nodes:Int):Option ((List aN)×Int):=
  (gF p (0:Int) nodes).bind fun r=>
  if(r !=(0:Int))then
  (some ([],r))
  else
  ((mP p nodes qx).bind fun r1=>
  some (r1,(0:Int)))

def uM:Option fi:=
 some (⟨[(⟨[116],[(⟨[97],(2:Int)⟩:bX),(⟨[98],(2:Int)⟩:bX)],[(0:Int)]⟩:ci),(⟨[117],[(⟨[99],(2:Int)⟩:bX)],[]⟩:ci)]⟩:fi)

def qF:Option Bool:=
  (uM).bind fun r=>
  (xD (⟨[(⟨(1:Int),(-1:Int),(-1:Int),(1:Int),[(2:Int)],false,(⟨[]⟩:bA),[],[],[],[],(0:Int)⟩:ai),(⟨(4:Int),(0:Int),(-1:Int),(0:Int),[],false,(⟨[]⟩:bA),[],[(⟨(1:Int),(⟨[]⟩:bA)⟩:kF)],[],[],(0:Int)⟩:ai)]⟩:cI) r).bind fun r1=>
  (im r1.1 (3:Int)).bind fun r2=>
  (if(((r1.2==(0:Int))&&(r2.2==(0:Int)))&&((r1.1.Frags.length:Int)==(2:Int)))then((eh r1.1.Frags (0:Int)).bind fun e=>
  some ((e.Nodes.length:Int)==(2:Int)))else some false).bind fun t=>
  (if t then((eh r1.1.Frags (0:Int)).bind fun e1=>
  (eh e1.Nodes (1:Int)).bind fun e2=>
  some (e2.Op==(10:Int)))else some false).bind fun t1=>
  some (t1&&((r2.1.length:Int)==(3:Int)))

def jm(p:bI)(frag:Int):Option (Int×Int):=
  (gF p frag (1:Int)).bind fun r=>
  if(r !=(0:Int))then
  (some ((0:Int),r))
  else
  ((l0 p frag).bind fun r1=>
  some (r1,(0:Int)))

def ku(p:bI)(frag:Int)(nodes:Int):Option ((List Int)×Int):=
  (gF p frag nodes).bind fun r=>
  if(r !=(0:Int))then
  (some ([],r))
  else
  ((eh p.Frags frag).bind fun e=>
  (lw e nodes).bind fun r1=>
  some (r1,(0:Int)))

def gy:List bT→Option Bool
 |[]=>
  some false
 |e1::tl=>
  if(decide ((200:Int)<(e1.Value.S.length:Int)))then
  (some true)
  else
  ((gy tl))

def hJ(e:bA):Option Bool:=
 if(decide ((100:Int)<(e.Nodes.length:Int)))then
 (some true)
 else
 (gy e.Nodes)

def j5(nx:Option Bool):List kF→Option Bool
 |[]=>
  nx
 |e2::tl2=>
  (hJ e2.Arg).bind fun r1=>
  if r1 then
  (some true)
  else
  ((j5 nx tl2))

def j6(nx:Option Bool)(e:ai):List bA→Option Bool
 |[]=>
  j5 nx e.Aggs
 |e1::tl1=>
  (hJ e1).bind fun r2=>
  if r2 then
  (some true)
  else
  ((j6 nx e tl1))

def fB:List ai→Option Bool
  |[]=>
    some false
  |e::tl=>
    (if(!(((((decide ((20:Int)<(e.Kinds.length:Int)))||(decide ((20:Int)<(e.Keys.length:Int))))||(decide ((20:Int)<(e.Order.length:Int))))||(decide ((20:Int)<(e.Items.length:Int))))||(decide ((20:Int)<(e.Aggs.length:Int)))))then((hJ e.Cond).bind fun r=>
    some r)else some true).bind fun t=>
    if t then
    (some true)
    else
    (j6 (fB tl) e e.Items)

def pq(l:(List ai)):Option Bool:=
 if(decide ((65:Int)<(l.length:Int)))then
 (some true)
 else
 (fB l)

def gx:List cz→Option Bool
  |[]=>
    some false
  |e::tl=>
    (if(!(decide ((40:Int)<(e.Cols.length:Int))))then((pq e.Nodes).bind fun r=>
    some r)else some true).bind fun t=>
    if t then
    (some true)
    else
    ((gx tl))

def kY(p:bI):Option Bool:=
 if(decide ((40:Int)<(p.Frags.length:Int)))then
 (some true)
 else
 (gx p.Frags)

def pm(frag:Int)(node:Int)(s:aN)(x:Int):Option Bool:=
 some ((s.Frag==frag)&&(s.From==node))

def ly(p:bI)(frag:Int)(nodes:Int)(node:Int):Option ((List aN)×Int):=
  (gF p frag nodes).bind fun r=>
  if(r !=(0:Int))then
  (some ([],r))
  else
  ((mP p nodes (pm frag node)).bind fun r1=>
  some (r1,(0:Int)))

def qz(frag:Int)(node:Int)(s:aN)(to1:Int):Option Bool:=
 some ((to1==frag)&&(s.To==node))

def mQ(p:bI)(frag:Int)(nodes:Int)(node:Int):Option ((List aN)×Int):=
  (gF p frag nodes).bind fun r=>
  if(r !=(0:Int))then
  (some ([],r))
  else
  ((mP p nodes (qz frag node)).bind fun r1=>
  some (r1,(0:Int)))

def ga(p:bI)(frag:Int)(nx:Int→Option Int)(i:Int):Nat→Int→Option Int
  |0,_=>none
  |n1+1,k=>
    (eh p.Frags i).bind fun e=>
    if(decide (k<(e.Nodes.length:Int)))then
    ((eh e.Nodes k).bind fun e1=>
    if((e1.Op==(9:Int))&&(e1.Table==frag))then
    (some i)
    else
    ((ga p frag nx i n1) (IntKind.i64.wrap (k+(1:Int)))))
    else
    (nx (IntKind.i64.wrap (i+(1:Int))))

def fa(p:bI)(frag:Int):Nat→Int→Option Int
 |0,_=>none
 |n+1,i=>
  if(decide (i<(p.Frags.length:Int)))then
  (ga p frag (fa p frag n) i kp (0:Int))
  else
  (some (-1:Int))

def mK(p:bI)(frag:Int):Option Int:=
 fa p frag kp (0:Int)

def eP(b:(List aN)):List aN→Nat→Option Bool
 |[],i=>
  some true
 |e::tl,i=>
  (eh b (i:Int)).bind fun e1=>
  if(!decide (e=e1))then
  (some false)
  else
  ((eP b tl) (i+1))

def eV(a1:(List aN))(b:(List aN)):Option Bool:=
 if((a1.length:Int) !=(b.length:Int))then
 (some false)
 else
 (eP b a1 0)

def gb(nodes:Int):Nat→(List Int)→Int→Option (List Int)
  |0,_,_=>none
  |n+1,out,i=>
    if(decide (i≤nodes))then
    ((kB out ([i])).bind fun out1=>
    (gb nodes n) out1 (IntKind.i64.wrap (i+(1:Int))))
    else
    (some out)

def ik(p:bI)(frag:Int)(nodes:Int):Option (List Int):=
 (eh p.Frags frag).bind fun e=>
 if(e.At==(2:Int))then
 (some ([(0:Int)]))
 else
 (gb nodes kp ([]:List Int) (1:Int))

def fC(nx:(List aN)→Int→Option (List aN))(k:Int)(out1:List aN):Option (List aN):=
 nx out1 (IntKind.i64.wrap (k+(1:Int)))

def ew(s:aN)(k:Int)(nx1:(List aN)→Option (List aN))(e:Int):List Int→(List aN)→Option (List aN)
  |[],out3=>
    nx1 out3
  |e1::tl1,out3=>
    if(((decide (s.From<(0:Int)))||(e==s.From))&&((decide (s.To<(0:Int)))||(e1==s.To)))then
    ((kB out3 ([(⟨k,e,e1⟩:aN)])).bind fun out4=>
    (ew s k nx1 e tl1) out4)
    else
    ((ew s k nx1 e tl1) out3)

def ez(s:aN)(nx:(List aN)→Int→Option (List aN))(k:Int)(r2:(List Int)):List Int→(List aN)→Option (List aN)
 |[],out2=>
  fC nx k out2
 |e::tl,out2=>
  ew s k (ez s nx k r2 tl) e r2 out2

def cS(p:bI)(nodes:Int)(s:aN)(to1:Int):Nat→(List aN)→Int→Option (List aN)
  |0,_,_=>none
  |n+1,out,k=>
    if(decide (k<(p.Frags.length:Int)))then
    ((mK p k).bind fun r=>
    if(((decide (r<(0:Int)))||((decide ((0:Int)≤s.Frag))&&(k !=s.Frag)))||((decide ((0:Int)≤to1))&&(r !=to1)))then
    (fC (cS p nodes s to1 n) k out)
    else
    ((ik p k nodes).bind fun r1=>
    (ik p r nodes).bind fun r2=>
    ez s (cS p nodes s to1 n) k r2 r1 out))
    else
    (some out)

def iJ(p:bI)(nodes:Int)(s:aN)(to1:Int):Option (List aN):=
 cS p nodes s to1 kp ([]:List aN) (0:Int)

def gn(b:(List Int)):List Int→Nat→Option Bool
 |[],i=>
  some true
 |e::tl,i=>
  (eh b (i:Int)).bind fun e1=>
  if(e !=e1)then
  (some false)
  else
  ((gn b tl) (i+1))

def kU(a1:(List Int))(b:(List Int)):Option Bool:=
 if((a1.length:Int) !=(b.length:Int))then
 (some false)
 else
 (gn b a1 0)

def mq(p:bI)(w1:uu):Option Bool:=
  (qF).bind fun r=>
  if(!r)then
  (some false)
  else
  ((kY p).bind fun r1=>
  if r1 then
  (some true)
  else
  ((jm p w1.Frag).bind fun r2=>
  (ku p w1.Frag w1.Nodes).bind fun r3=>
  (im p w1.Nodes).bind fun r4=>
  (mQ p w1.Frag w1.Nodes w1.Node).bind fun r5=>
  (ly p w1.Frag w1.Nodes w1.Node).bind fun r6=>
  (if(!((!((((decide ((1:Int)≤(p.Frags.length:Int)))&&(decide ((p.Frags.length:Int)≤(30:Int))))&&(decide ((0:Int)≤w1.Frag)))&&(decide (w1.Frag<(p.Frags.length:Int)))))&&((r2.1 !=(0:Int))||(r2.2 !=(2:Int)))))then((if((((decide ((1:Int)≤(p.Frags.length:Int)))&&(decide ((p.Frags.length:Int)≤(30:Int))))&&(decide ((0:Int)≤w1.Frag)))&&(decide (w1.Frag<(p.Frags.length:Int))))then((if(!(r2.2 !=(0:Int)))then((mK p w1.Frag).bind fun r7=>
  some (r2.1 !=r7))else some true).bind fun t2=>
  some t2)else some false).bind fun t1=>
  some t1)else some true).bind fun t=>
  if t then
  (some false)
  else
  ((if(!((!((((decide ((1:Int)≤(p.Frags.length:Int)))&&(decide ((p.Frags.length:Int)≤(30:Int))))&&(decide ((1:Int)≤w1.Nodes)))&&(decide (w1.Nodes≤(8:Int)))))&&(((r4.1.length:Int) !=(0:Int))||(r4.2 !=(2:Int)))))then((if((((decide ((1:Int)≤(p.Frags.length:Int)))&&(decide ((p.Frags.length:Int)≤(30:Int))))&&(decide ((1:Int)≤w1.Nodes)))&&(decide (w1.Nodes≤(8:Int))))then((if(!(r4.2 !=(0:Int)))then((iJ p w1.Nodes (⟨(-1:Int),(-1:Int),(-1:Int)⟩:aN) (-1:Int)).bind fun r8=>
  (eV r4.1 r8).bind fun r9=>
  some (!r9))else some true).bind fun t5=>
  some t5)else some false).bind fun t4=>
  some t4)else some true).bind fun t3=>
  if t3 then
  (some false)
  else
  (if((!((((decide ((1:Int)≤(p.Frags.length:Int)))&&(decide ((p.Frags.length:Int)≤(30:Int))))&&(decide ((0:Int)≤w1.Frag)))&&(decide (w1.Frag<(p.Frags.length:Int)))))||(!((((decide ((1:Int)≤(p.Frags.length:Int)))&&(decide ((p.Frags.length:Int)≤(30:Int))))&&(decide ((1:Int)≤w1.Nodes)))&&(decide (w1.Nodes≤(8:Int))))))then
  (some (((((((r3.1.length:Int)==(0:Int))&&(r3.2==(2:Int)))&&((r5.1.length:Int)==(0:Int)))&&(r5.2==(2:Int)))&&((r6.1.length:Int)==(0:Int)))&&(r6.2==(2:Int))))
  else
  ((if(!(((r3.2 !=(0:Int))||(r5.2 !=(0:Int)))||(r6.2 !=(0:Int))))then((ik p w1.Frag w1.Nodes).bind fun r10=>
  (kU r3.1 r10).bind fun r11=>
  some (!r11))else some true).bind fun t6=>
  if t6 then
  (some false)
  else
  (if(decide (w1.Node<(0:Int)))then
  (some (((r5.1.length:Int)==(0:Int))&&((r6.1.length:Int)==(0:Int))))
  else
  ((iJ p w1.Nodes (⟨(-1:Int),(-1:Int),w1.Node⟩:aN) w1.Frag).bind fun r12=>
  (eV r5.1 r12).bind fun r13=>
  (if r13 then((iJ p w1.Nodes (⟨w1.Frag,w1.Node,(-1:Int)⟩:aN) (-1:Int)).bind fun r14=>
  (eV r6.1 r14).bind fun r15=>
  some r15)else some false).bind fun t7=>
  some t7)))))))

def jj(x1:Bool):Option Int:=
 if x1 then
 (some (1:Int))
 else
 (some (-1:Int))

def qr(op:Int)(x:Bool):Option Int:=
  if x then
  (some (2:Int))
  else
  (if(op==(3:Int))then
  (jj (op==(3:Int)))
  else
  (if(op==(4:Int))then
  (jj (op==(4:Int)))
  else
  (if(op==(5:Int))then
  (jj (op==(5:Int)))
  else
  (if(op==(6:Int))then
  (jj (op==(6:Int)))
  else
  (jj (op==(8:Int)))))))

def Ah(op:Int):Option Int:=
  if(op==(1:Int))then
  (some (0:Int))
  else
  (if(op==(2:Int))then
  (qr op (op==(2:Int)))
  else
  (qr op (op==(7:Int))))

def kT:Nat→cI→Int→Option Int
  |0,_,_=>none
  |fu+1,l,at1=>
    if((decide (at1<(0:Int)))||(decide ((l.Nodes.length:Int)≤at1)))then
    (some (0:Int))
    else
    ((eh l.Nodes at1).bind fun e=>
    (Ah e.Op).bind fun r=>
    if(r==(0:Int))then
    (if((e.A==(-1:Int))&&(e.B==(-1:Int)))then
    (some (1:Int))
    else
    (some (0:Int)))
    else
    (if(r==(1:Int))then
    (if((e.A==(IntKind.i64.wrap (at1-(1:Int))))&&(e.B==(-1:Int)))then
    (((kT fu) l e.A).bind fun r1=>
    if(decide ((0:Int)<r1))then
    (some (IntKind.i64.wrap (r1+(1:Int))))
    else
    (some (0:Int)))
    else
    (some (0:Int)))
    else
    (if(r==(2:Int))then
    (if(e.B==(IntKind.i64.wrap (at1-(1:Int))))then
    (((kT fu) l e.B).bind fun r2=>
    if((decide ((0:Int)<r2))&&(e.A==(IntKind.i64.wrap (e.B-r2))))then
    (((kT fu) l e.A).bind fun r3=>
    if(decide ((0:Int)<r3))then
    (some (IntKind.i64.wrap ((IntKind.i64.wrap (r3+r2))+(1:Int))))
    else
    (some (0:Int)))
    else
    (some (0:Int)))
    else
    (some (0:Int)))
    else
    (some (0:Int)))))

def vY(l:cI)(at1:Int):Option Int:=
 kT kp l at1

def DG(n:ai):Option Bool:=
  if((n.Op !=(1:Int))&&((n.Table !=(0:Int))||(decide ((0:Int)<(n.Kinds.length:Int)))))then
  (some false)
  else
  (if(((n.Op !=(2:Int))&&n.Left)||(((n.Op !=(2:Int))&&(n.Op !=(3:Int)))&&(decide ((0:Int)<(n.Cond.Nodes.length:Int)))))then
  (some false)
  else
  (if(((n.Op !=(4:Int))&&((decide ((0:Int)<(n.Keys.length:Int)))||(decide ((0:Int)<(n.Aggs.length:Int)))))||((n.Op !=(5:Int))&&(decide ((0:Int)<(n.Items.length:Int)))))then
  (some false)
  else
  (some ((n.Op==(8:Int))||(((n.Order.length:Int)==(0:Int))&&(n.Limit==(0:Int)))))))

def Ak(tag:Int):Option Int:=
  if((decide (tag<(1:Int)))||(decide ((23:Int)<tag)))then
  (some (-1:Int))
  else
  (if(decide (tag≤(3:Int)))then
  (some (0:Int))
  else
  (if(decide (tag≤(11:Int)))then
  (some (1:Int))
  else
  (some (2:Int))))

def Aj(tag:Int):Option Int:=
  if((tag==(3:Int))||((decide ((8:Int)≤tag))&&(decide (tag≤(11:Int)))))then
  (some (-1:Int))
  else
  ((Ak tag).bind fun r=>
  some r)

def Al(v:dh):Option Bool:=
  if(v.Kind==(0:Int))then
  (some (decide (v=(⟨(0:Int),(0:Int),(0:Int),[]⟩:dh))))
  else
  (if(v.Kind==(1:Int))then
  (some (((v.U==(0:Int))&&(v.S==([])))&&((v.N==(0:Int))||(v.N==(1:Int)))))
  else
  (if(v.Kind==(2:Int))then
  (some ((v.U==(0:Int))&&(v.S==([]))))
  else
  (if(v.Kind==(3:Int))then
  (some (((v.N==(0:Int))&&(v.U==(0:Int)))&&(decide ((v.S.length:Int)≤(40:Int)))))
  else
  (some ((v.Kind==(4:Int))&&(v.S==([])))))))

def Am(v:dh):Option Bool:=
 (Al v).bind fun r=>
 some (r&&(v.Kind !=(4:Int)))

def yU(n:bT):Option Bool:=
  if(n.Tag==(1:Int))then
  ((Am n.Value).bind fun r=>
  some (r&&(n.Col==(0:Int))))
  else
  (if(n.Tag==(2:Int))then
  (some (((decide (n.Value=(⟨(0:Int),(0:Int),(0:Int),[]⟩:dh)))&&(decide ((0:Int)≤n.Col)))&&(decide (n.Col<(16:Int)))))
  else
  (some ((decide (n.Value=(⟨(0:Int),(0:Int),(0:Int),[]⟩:dh)))&&(n.Col==(0:Int)))))

def pe:Nat→bA→Int→Option Int
  |0,_,_=>none
  |fu+1,e,place=>
    if((decide (place<(0:Int)))||(decide ((e.Nodes.length:Int)≤place)))then
    (some (0:Int))
    else
    ((eh e.Nodes place).bind fun e1=>
    (Aj e1.Tag).bind fun r=>
    (if(!(decide (r<(0:Int))))then((yU e1).bind fun r1=>
    some (!r1))else some true).bind fun t=>
    if t then
    (some (0:Int))
    else
    (if(r==(0:Int))then
    (if((e1.L !=(-1:Int))||(e1.R !=(-1:Int)))then
    (some (0:Int))
    else
    (some (1:Int)))
    else
    (((pe fu) e (IntKind.i64.wrap (place-(1:Int)))).bind fun r2=>
    if(r2==(0:Int))then
    (some (0:Int))
    else
    (if(r==(1:Int))then
    (if((e1.L !=(IntKind.i64.wrap (place-(1:Int))))||(e1.R !=(-1:Int)))then
    (some (0:Int))
    else
    (some (IntKind.i64.wrap (r2+(1:Int)))))
    else
    (((pe fu) e (IntKind.i64.wrap ((IntKind.i64.wrap (place-(1:Int)))-r2))).bind fun r3=>
    if(((r3==(0:Int))||(e1.R !=(IntKind.i64.wrap (place-(1:Int)))))||(e1.L !=(IntKind.i64.wrap ((IntKind.i64.wrap (place-(1:Int)))-r2))))then
    (some (0:Int))
    else
    (some (IntKind.i64.wrap ((IntKind.i64.wrap (r3+r2))+(1:Int)))))))))

def BG(e:bA)(place:Int):Option Int:=
 pe kp e place

def Ai(e:bA):Option Bool:=
  (if((decide ((1:Int)≤(e.Nodes.length:Int)))&&(decide ((e.Nodes.length:Int)≤(1000:Int))))then((BG e (IntKind.i64.wrap ((e.Nodes.length:Int)-(1:Int)))).bind fun r=>
  some (r==(e.Nodes.length:Int)))else some false).bind fun t=>
  some t

def pf(k:Int)(want:Int):Option Bool:=
 some ((k==want)||(k==(0:Int)))

def vZ(tag:Int)(l:Int)(r:Int):Option (Int×Bool):=
  if((tag==(4:Int))||((decide ((12:Int)≤tag))&&(decide (tag≤(15:Int)))))then
  ((pf l (2:Int)).bind fun r1=>
  (if r1 then((pf r (2:Int)).bind fun r2=>
  some r2)else some false).bind fun t=>
  some ((2:Int),t))
  else
  (if((tag==(5:Int))||(decide ((22:Int)≤tag)))then
  ((pf l (1:Int)).bind fun r3=>
  (if r3 then((pf r (1:Int)).bind fun r4=>
  some r4)else some false).bind fun t1=>
  some ((1:Int),t1))
  else
  (if((tag==(6:Int))||(tag==(7:Int)))then
  (some ((1:Int),true))
  else
  (some ((1:Int),(((l==r)||(l==(0:Int)))||(r==(0:Int)))))))

def rA(nx2:(List Int)→Option (Int×Int))(e3:bT)(own:List Int)(e6:Int)(r1:Int):Option (Int×Int):=
  (vZ e3.Tag e6 r1).bind fun r2=>
  if(!r2.2)then
  (some ((0:Int),(201:Int)))
  else
  ((kB own ([r2.1])).bind fun own3=>
  nx2 own3)

def j3(kinds:(List Int)):List bT→(List Int)→Option (Int×Int)
  |[],own=>
    (eh own (IntKind.i64.wrap ((own.length:Int)-(1:Int)))).bind fun e4=>
    some (e4,(0:Int))
  |e3::tl2,own=>
    if(e3.Tag==(1:Int))then
    ((kB own ([e3.Value.Kind])).bind fun own1=>
    (j3 kinds tl2) own1)
    else
    (if(e3.Tag==(2:Int))then
    ((eh kinds e3.Col).bind fun e5=>
    (kB own ([e5])).bind fun own2=>
    (j3 kinds tl2) own2)
    else
    ((eh own e3.L).bind fun e6=>
    if(decide ((0:Int)≤e3.R))then
    ((eh own e3.R).bind fun e7=>
    rA (j3 kinds tl2) e3 own e6 e7)
    else
    (rA (j3 kinds tl2) e3 own e6 (0:Int))))

def ry(e:bA)(kinds:(List Int)):List bT→Option (Int×Int)
 |[]=>
  j3 kinds e.Nodes ([]:List Int)
 |e2::tl1=>
  if((e2.Tag==(2:Int))&&(decide ((kinds.length:Int)≤e2.Col)))then
  (some ((0:Int),(2:Int)))
  else
  ((ry e kinds tl1))

def rz(e:bA)(kinds:(List Int)):List Int→Option (Int×Int)
 |[]=>
  ry e kinds e.Nodes
 |e1::tl=>
  if((decide (e1<(0:Int)))||(decide ((3:Int)<e1)))then
  (some ((0:Int),(2:Int)))
  else
  ((rz e kinds tl))

def se(e:bA)(kinds:(List Int)):Option (Int×Int):=
 (Ai e).bind fun r=>
 if(!r)then
 (some ((0:Int),(200:Int)))
 else
 (rz e kinds kinds)

def uG(e:bA)(kinds:(List Int)):Option Bool:=
 (se e kinds).bind fun r=>
 some ((r.2==(0:Int))&&((r.1==(0:Int))||(r.1==(1:Int))))

def vb(a1:kF)(kinds:(List Int)):Option (Int×Bool):=
  if(a1.Tag==(1:Int))then
  (some ((2:Int),((a1.Arg.Nodes.length:Int)==(0:Int))))
  else
  ((se a1.Arg kinds).bind fun r=>
  if(((decide (a1.Tag<(1:Int)))||(decide ((5:Int)<a1.Tag)))||(r.2 !=(0:Int)))then
  (some ((0:Int),false))
  else
  (if(((a1.Tag==(3:Int))&&(r.1 !=(2:Int)))&&(r.1 !=(0:Int)))then
  (some ((0:Int),false))
  else
  (if(decide ((4:Int)≤a1.Tag))then
  (some (r.1,true))
  else
  (some ((2:Int),true)))))

def qp(n:ai):Nat→Bool→Int→Option ((List Int)×Bool)
  |0,_,_=>none
  |n1+1,ok,i=>
    if(decide (i<(n.Kinds.length:Int)))then
    ((if ok then((eh n.Kinds i).bind fun e=>
    some (decide ((1:Int)≤e)))else some false).bind fun t=>
    (if t then((eh n.Kinds i).bind fun e1=>
    some (decide (e1≤(3:Int))))else some false).bind fun t1=>
    (qp n n1) t1 (IntKind.i64.wrap (i+(1:Int))))
    else
    (some (n.Kinds,((((ok&&(decide ((0:Int)≤n.Table)))&&(decide (n.Table≤(3:Int))))&&(decide ((1:Int)≤(n.Kinds.length:Int))))&&(decide ((n.Kinds.length:Int)≤(4:Int))))))

def qn(n:ai)(a1:(List Int)):Nat→(List Int)→Bool→Int→Option ((List Int)×Bool)
  |0,_,_,_=>none
  |n3+1,out3,ok1,i2=>
    if(decide (i2<(n.Aggs.length:Int)))then
    ((eh n.Aggs i2).bind fun e4=>
    (vb e4 a1).bind fun r2=>
    (kB out3 ([r2.1])).bind fun out4=>
    (qn n a1 n3) out4 (ok1&&r2.2) (IntKind.i64.wrap (i2+(1:Int))))
    else
    (some (out3,(((ok1&&(decide ((n.Keys.length:Int)≤(3:Int))))&&(decide ((n.Aggs.length:Int)≤(12:Int))))&&(decide ((0:Int)<(out3.length:Int))))))

def qo(n:ai)(a1:(List Int)):Nat→(List Int)→Int→Option ((List Int)×Bool)
  |0,_,_=>none
  |n2+1,out1,i1=>
    if(decide (i1<(n.Keys.length:Int)))then
    ((eh n.Keys i1).bind fun e2=>
    if((decide (e2<(0:Int)))||(decide ((a1.length:Int)≤e2)))then
    (some ([],false))
    else
    ((eh a1 e2).bind fun e3=>
    (kB out1 ([e3])).bind fun out2=>
    (qo n a1 n2) out2 (IntKind.i64.wrap (i1+(1:Int)))))
    else
    (qn n a1 kp out1 true (0:Int))

def qm(n:ai)(a1:(List Int)):Nat→(List Int)→Bool→Int→Option ((List Int)×Bool)
  |0,_,_,_=>none
  |n4+1,out5,ok2,i3=>
    if(decide (i3<(n.Items.length:Int)))then
    ((eh n.Items i3).bind fun e5=>
    (se e5 a1).bind fun r3=>
    (kB out5 ([r3.1])).bind fun out6=>
    (qm n a1 n4) out6 (ok2&&(r3.2==(0:Int))) (IntKind.i64.wrap (i3+(1:Int))))
    else
    (some (out5,((ok2&&(decide ((1:Int)≤(out5.length:Int))))&&(decide ((out5.length:Int)≤(16:Int))))))

def qq(b:(List Int))(nx4:Nat→(List Int)→Bool→Option ((List Int)×Bool))(i4:Nat)(out7:List Int)(ok3:Bool)(k:Int):Option ((List Int)×Bool):=
  (kB out7 ([k])).bind fun out8=>
  (if ok3 then((eh b (i4:Int)).bind fun e7=>
  (if(!(e7==k))then((eh b (i4:Int)).bind fun e8=>
  some (e8==(0:Int)))else some true).bind fun t3=>
  some t3)else some false).bind fun t2=>
  nx4 (i4+1) out8 t2

def mY(b:(List Int)):List Int→Nat→(List Int)→Bool→Option ((List Int)×Bool)
  |[],i4,out7,ok3=>
    some (out7,ok3)
  |e6::tl,i4,out7,ok3=>
    if(e6==(0:Int))then
    ((eh b (i4:Int)).bind fun e9=>
    qq b (mY b tl) i4 out7 ok3 e9)
    else
    (qq b (mY b tl) i4 out7 ok3 e6)

def ql(n:ai)(a1:(List Int)):Nat→Bool→Int→Option ((List Int)×Bool)
  |0,_,_=>none
  |n5+1,ok4,i5=>
    if(decide (i5<(n.Order.length:Int)))then
    ((if ok4 then((eh n.Order i5).bind fun e10=>
    some (decide ((0:Int)≤e10.Col)))else some false).bind fun t4=>
    (if t4 then((eh n.Order i5).bind fun e11=>
    some (decide (e11.Col<(a1.length:Int))))else some false).bind fun t5=>
    (ql n a1 n5) t5 (IntKind.i64.wrap (i5+(1:Int))))
    else
    (some (a1,(((ok4&&(decide ((n.Order.length:Int)≤(3:Int))))&&(decide ((-1:Int)≤n.Limit)))&&(decide (n.Limit≤(2147483647:Int))))))

def Ag(n:ai)(a1:(List Int))(b:(List Int)):Option ((List Int)×Bool):=
  if(n.Op==(1:Int))then
  (qp n kp true (0:Int))
  else
  (if(n.Op==(2:Int))then
  ((kB ([]:List Int) a1).bind fun l=>
  (kB l b).bind fun out=>
  (uG n.Cond out).bind fun r=>
  some (out,r))
  else
  (if(n.Op==(3:Int))then
  ((uG n.Cond a1).bind fun r1=>
  some (a1,r1))
  else
  (if(n.Op==(4:Int))then
  (qo n a1 kp ([]:List Int) (0:Int))
  else
  (if(n.Op==(5:Int))then
  (qm n a1 kp ([]:List Int) true (0:Int))
  else
  (if(n.Op==(6:Int))then
  (some (a1,true))
  else
  (if(n.Op==(7:Int))then
  (if((a1.length:Int) !=(b.length:Int))then
  (some ([],false))
  else
  (mY b a1 0 ([]:List Int) true))
  else
  (ql n a1 kp true (0:Int))))))))

def qt(l:cI)(at1:Int)(e1:ai)(a1:(List Int))(b1:(List Int)):Option ((List Int)×Bool):=
 (Ag e1 a1 b1).bind fun r2=>
 if(((e1.Op==(8:Int))&&(at1 !=(IntKind.i64.wrap ((l.Nodes.length:Int)-(1:Int)))))||(decide ((16:Int)<(r2.1.length:Int))))then
 (some ([],false))
 else
 (some (r2.1,r2.2))

def qu(self__:cI→Int→Option ((List Int)×Bool))(l:cI)(at1:Int)(e1:ai)(a1:(List Int)):Option ((List Int)×Bool):=
  if(decide ((0:Int)≤e1.B))then
  ((self__ l e1.B).bind fun r3=>
  if(!r3.2)then
  (some ([],false))
  else
  (qt l at1 e1 a1 r3.1))
  else
  (qt l at1 e1 a1 ([]))

def lO:Nat→cI→Int→Option ((List Int)×Bool)
  |0,_,_=>none
  |fu+1,l,at1=>
    (vY l at1).bind fun r=>
    (if(!(r==(0:Int)))then((eh l.Nodes at1).bind fun e=>
    (DG e).bind fun r1=>
    some (!r1))else some true).bind fun t=>
    if t then
    (some ([],false))
    else
    ((eh l.Nodes at1).bind fun e1=>
    if(decide ((0:Int)≤e1.A))then
    (((lO fu) l e1.A).bind fun r4=>
    if(!r4.2)then
    (some ([],false))
    else
    (qu (lO fu) l at1 e1 r4.1))
    else
    (qu (lO fu) l at1 e1 ([])))

end Go.Proofs.YtnmjbolollcokaaGreatDoor

