/- cR of this claim: F. -/
import Derived.Test.YtnmjbolollcokaaGreatDoorRcD
import Derived.Test.YtnmjbolollcokaaGreatDoorRcV4
import Derived.Lib.MapU
set_option linter.all false
namespace Go.Proofs.YtnmjbolollcokaaGreatDoor
open Go

def eP(f:(Int→Option Bool)):List Int→Nat→Option Int
 |[],i=>
  some (-1:Int)
 |e::tl,i=>
  (f e).bind fun r=>
  if r then
  (some (i:Int))
  else
  ((eP f tl) (i+1))

def j9(s:(List Int))(f:(Int→Option Bool)):Option Int:=
 eP f s 0

def dF(s:(List Int))(f:(Int→Option Bool)):Option Bool:=
 (j9 s f).bind fun r=>
 some (decide ((0:Int)≤r))

def AJ(k:Int):Option Bool:=
 some (((k==(1:Int))||(k==(2:Int)))||(k==(3:Int)))

def jW(k:Int):Option Bool:=
 (AJ k).bind fun r=>
 some (!r)

def ff(c:aq)(n:M):Option ((List Int)×Bool):=
  (if((((decide ((0:Int)≤n.Table))&&(decide (n.Table<(4:Int))))&&(decide ((1:Int)≤(n.Kinds.length:Int))))&&(decide ((n.Kinds.length:Int)≤(4:Int))))then((dF n.Kinds jW).bind fun r=>
  some (!r))else some false).bind fun t=>
  some (n.Kinds,t)

def k5(s:List Int):Option (List Int):=
 some s

def k6(n:Int):Option (List Int):=
  if(decide ((0:Int)<(IntKind.i64.wrap (n-(IntKind.i64.wrap ((0:Int)-(0:Int)))))))then
  ((Vp (IntKind.i64.wrap (n-(IntKind.i64.wrap ((0:Int)-(0:Int)))))).bind fun _=>
  (ub (IntKind.i64.wrap (n-(IntKind.i64.wrap ((0:Int)-(0:Int))))) (0:Int)).bind fun mk=>
  (d6 mk 0 (0:Int)).bind fun y=>
  k5 y)
  else
  (k5 ([]:List Int))

def kq(n:Int):Option (List Int):=
 if(decide (n<(0:Int)))then
 (none)
 else
 (k6 n)

def gY:List (List Int)→(List Int)→Option (List Int)
 |[],newslice=>
  some newslice
 |e1::tl1,newslice=>
  (iC newslice e1).bind fun newslice1=>
  (gY tl1) newslice1

def gZ(slices:(List (List Int))):List (List Int)→Int→Option (List Int)
 |[],size=>
  (kq size).bind fun r=>
  gY slices r
 |e::tl,size=>
  if(decide ((IntKind.i64.wrap (size+(e.length:Int)))<(0:Int)))then
  (none)
  else
  ((gZ slices tl) (IntKind.i64.wrap (size+(e.length:Int))))

def gM(slices:(List (List Int))):Option (List Int):=
 gZ slices slices (0:Int)

def pA(tag:Int):Option Int:=
  if((tag==(1:Int))||(tag==(2:Int)))then
  (some (0:Int))
  else
  (if((decide ((4:Int)≤tag))&&(decide (tag≤(7:Int))))then
  (some (1:Int))
  else
  (if((decide ((12:Int)≤tag))&&(decide (tag≤(23:Int))))then
  (some (2:Int))
  else
  (some (-1:Int))))

def jg(v1:cB):Option cB:=
 some v1

def oe(v2:cB):Option cB:=
 jg (cB.mk (0:Int) v2.N v2.U v2.S)

def od(v:cB):Option cB:=
 oe (cB.mk v.Kind (0:Int) v.U v.S)

def oc(v3:cB):Option cB:=
 jg v3

def vi(v:cB):Option cB:=
  if(v.Kind==(1:Int))then
  (if((v.N !=(0:Int))&&(v.N !=(1:Int)))then
  (jg v)
  else
  (od v))
  else
  (if(v.Kind==(2:Int))then
  (od v)
  else
  (if(v.Kind==(0:Int))then
  (oe v)
  else
  (if(v.Kind==(3:Int))then
  (if(decide ((v.S.length:Int)≤(40:Int)))then
  (oc (cB.mk (0:Int) v.N v.U ([])))
  else
  (oc v))
  else
  (if(v.Kind==(4:Int))then
  (jg (cB.mk (0:Int) (0:Int) (0:Int) v.S))
  else
  (jg v)))))

def sf(v:cB):Option Int:=
 (vi v).bind fun r=>
 if(!decide (r=(⟨(0:Int),(0:Int),(0:Int),[]⟩:cB)))then
 (some (120:Int))
 else
 (some (0:Int))

def se(v:cB):Option Bool:=
 (sf v).bind fun r=>
 some ((r==(0:Int))&&(v.Kind !=(4:Int)))

def sI(n:aU):Option Bool:=
  if(n.Tag==(1:Int))then
  ((se n.Value).bind fun r=>
  some (r&&(n.Col==(0:Int))))
  else
  (if(n.Tag==(2:Int))then
  (some (((decide (n.Value=(⟨(0:Int),(0:Int),(0:Int),[]⟩:cB)))&&(decide ((0:Int)≤n.Col)))&&(decide (n.Col<(16:Int)))))
  else
  (some ((decide (n.Value=(⟨(0:Int),(0:Int),(0:Int),[]⟩:cB)))&&(n.Col==(0:Int)))))

def kO(nx:Nat→(List Int)→(List Int)→Option ((List Int)×Bool))(i:Nat)(e1:aU)(all:List Int)(open1:List Int)(r:Int):List Int→Nat→Int→(List Int)→Option ((List Int)×Bool)
  |[],i1,first,at1=>
    if(!decide (at1=([e1.L,e1.R])))then
    (some ([],false))
    else
    ((iC all ([first])).bind fun all1=>
    (d6 open1 0 (IntKind.i64.wrap ((open1.length:Int)-r))).bind fun y1=>
    (iC y1 ([(i:Int)])).bind fun open2=>
    nx (i+1) all1 open2)
  |e2::tl1,i1,first,at1=>
    (cK all e2).bind fun e3=>
    (cK at1 (i1:Int)).bind fun e4=>
    (some (at1.set (i1:Int).toNat e2)).bind fun ar=>
    (kO nx i e1 all open1 r tl1) (i1+1) (min first e3) ar

def jw:List aU→Nat→(List Int)→(List Int)→Option ((List Int)×Bool)
  |[],i,all,open1=>
    some (all,(((open1.length:Int)==(1:Int))&&(decide ((all.length:Int)≤(1000:Int)))))
  |e1::tl,i,all,open1=>
    (pA e1.Tag).bind fun r=>
    (if(!((decide (r<(0:Int)))||(decide ((open1.length:Int)<r))))then((sI e1).bind fun r1=>
    some (!r1))else some true).bind fun t=>
    if t then
    (some ([],false))
    else
    ((d6 open1 (IntKind.i64.wrap ((open1.length:Int)-r)) (open1.length:Int)).bind fun y=>
    kO (jw tl) i e1 all open1 r y 0 (i:Int) ([(-1:Int),(-1:Int)]))

def qo(e:aT):Option ((List Int)×Bool):=
 jw e.Nodes 0 ([]:List Int) ([]:List Int)

def nC(e:aT):Option Int:=
 (qo e).bind fun r=>
 if(!r.2)then
 (some (200:Int))
 else
 (some (0:Int))

def dy(i:Nat)(y:List Int):Nat→Nat→(List Int)→Int→Option (List Int)
  |0,i1,s1,k=>
    (d6 s1 k (s1.length:Int)).bind fun y1=>
    (some (s1.take k.toNat++List.replicate y1.length (0:Int))).bind fun cl=>
    (d6 cl 0 k).bind fun y2=>
    some y2
  |k2+1,i1,s1,k=>
    (Di s1 (i:Int) y.length (i1:Int)).bind fun e3=>
    (Di s1 (i:Int) y.length (IntKind.i64.wrap ((i1:Int)-(1:Int)))).bind fun e4=>
    if(e3 !=e4)then
    ((Di s1 (i:Int) y.length (i1:Int)).bind fun e5=>
    (cK s1 k).bind fun e6=>
    (some (s1.set k.toNat e5)).bind fun st=>
    (dy i y k2) (i1+1) st (IntKind.i64.wrap (k+(1:Int))))
    else
    ((dy i y k2) (i1+1) s1 k)

def ee(s:(List Int)):List Int→Nat→Option (List Int)
  |[],i=>
    some s
  |e::tl,i=>
    (cK s (IntKind.i64.wrap ((i:Int)-(1:Int)))).bind fun e1=>
    if(e==e1)then
    ((d6 s (i:Int) (s.length:Int)).bind fun y=>
    dy i y (y.length-1) 1 s (i:Int))
    else
    ((ee s tl) (i+1))

def iQ(s:(List Int)):Option (List Int):=
 if(decide ((s.length:Int)<(2:Int)))then
 (some s)
 else
 (ee s (s.drop (1)) 1)

def ll:List aU→(List Int)→Option (List Int)
  |[],out=>
    (BZ out).bind fun Tx=>
    (iQ Tx).bind fun r1=>
    some r1
  |e1::tl,out=>
    if(e1.Tag==(2:Int))then
    ((iC out ([e1.Col])).bind fun cx=>
    (ll tl) cx)
    else
    ((ll tl) out)

def tN(e:aT):Option (List Int):=
 (nC e).bind fun r=>
 if(r !=(0:Int))then
 (some ([]:List Int))
 else
 (ll e.Nodes ([]:List Int))

def bI(s:(List Int)):Option (List Int):=
 (iC ([]:List Int) s).bind fun x=>
 some x

def nj(stack:(List Int))(k:Int):Option ((List Int)×(List Int)):=
 (d6 stack (IntKind.i64.wrap ((stack.length:Int)-k)) (stack.length:Int)).bind fun y=>
 (bI y).bind fun r=>
 (d6 stack 0 (IntKind.i64.wrap ((stack.length:Int)-k))).bind fun y1=>
 some (r,y1)

def kN(bad:Int)(stack:List Int):Option (Int×Int):=
  if(bad !=(0:Int))then
  (some ((0:Int),bad))
  else
  ((cK stack (0:Int)).bind fun e1=>
  some (e1,(0:Int)))

def gq(do1:(aU→(List Int)→Option (Int×Int))):List aU→Int→(List Int)→Option (Int×Int)
  |[],bad1,stack1=>
    kN bad1 stack1
  |e2::tl,bad1,stack1=>
    (pA e2.Tag).bind fun r=>
    (nj stack1 r).bind fun r1=>
    (do1 e2 r1.1).bind fun r2=>
    if(r2.2 !=(0:Int))then
    (kN r2.2 r1.2)
    else
    ((iC r1.2 ([r2.1])).bind fun l2=>
    (gq do1 tl) bad1 l2)

def nc(e:aT)(do1:(aU→(List Int)→Option (Int×Int))):Option (Int×Int):=
 gq do1 e.Nodes (0:Int) ([]:List Int)

def qz(tag:Int):Option Bool:=
 some ((tag==(4:Int))||((decide ((12:Int)≤tag))&&(decide (tag≤(15:Int)))))

def kP(kinds:(List Int))(n:aU):List Int→Int→Option (Int×Int)
  |[],own=>
    if(n.Tag==(1:Int))then
    (some (n.Value.Kind,(0:Int)))
    else
    (if(n.Tag==(2:Int))then
    ((cK kinds n.Col).bind fun e1=>
    some (e1,(0:Int)))
    else
    ((qz n.Tag).bind fun r=>
    if r then
    (if((own==(-1:Int))||((own !=(0:Int))&&(own !=(2:Int))))then
    (some ((0:Int),(201:Int)))
    else
    (some ((2:Int),(0:Int))))
    else
    (if(((n.Tag==(5:Int))||(n.Tag==(22:Int)))||(n.Tag==(23:Int)))then
    (if((own==(-1:Int))||((own !=(0:Int))&&(own !=(1:Int))))then
    (some ((0:Int),(201:Int)))
    else
    (some ((1:Int),(0:Int))))
    else
    (if((own==(-1:Int))||((own !=(0:Int))&&(own !=own)))then
    (some ((0:Int),(201:Int)))
    else
    (some ((1:Int),(0:Int)))))))
  |e::tl,own=>
    if((e==(0:Int))||(e==own))then
    ((kP kinds n tl) own)
    else
    (if(own==(0:Int))then
    ((kP kinds n tl) e)
    else
    ((kP kinds n tl) (-1:Int)))

def ie(kinds:(List Int))(n:aU)(l:(List Int)):Option (Int×Int):=
 kP kinds n l (0:Int)

def lk(e:aT)(kinds:(List Int)):List Int→Option (Int×Int)
 |[]=>
  (nc e (ie kinds)).bind fun r2=>
  some (r2.1,r2.2)
 |e2::tl1=>
  if(decide ((kinds.length:Int)≤e2))then
  (some ((0:Int),(2:Int)))
  else
  ((lk e kinds tl1))

def oK(e:aT)(kinds:(List Int)):List Int→Option (Int×Int)
 |[]=>
  (tN e).bind fun r1=>
  lk e kinds r1
 |e1::tl=>
  if((decide (e1<(0:Int)))||(decide ((3:Int)<e1)))then
  (some ((0:Int),(2:Int)))
  else
  ((oK e kinds tl))

def q0(e:aT)(kinds:(List Int)):Option (Int×Int):=
 (nC e).bind fun r=>
 if(r !=(0:Int))then
 (some ((0:Int),r))
 else
 (oK e kinds kinds)

def qj(e:aT)(kinds:(List Int)):Option Bool:=
 (q0 e kinds).bind fun r=>
 some ((r.2==(0:Int))&&((r.1==(1:Int))||(r.1==(0:Int))))

def gk(c:aq)(n:M):Option ((List Int)×Bool):=
 (cK c.kinds n.A).bind fun e=>
 (cK c.kinds n.B).bind fun e1=>
 (gM ([e,e1])).bind fun r=>
 (qj n.Cond r).bind fun r1=>
 some (r,r1)

def fg(c:aq)(n:M):Option ((List Int)×Bool):=
 (cK c.kinds n.A).bind fun e=>
 (qj n.Cond e).bind fun r=>
 some (e,r)

def oE(kinds:(List Int))(c:Int):Option Bool:=
 some ((decide (c<(0:Int)))||(decide ((kinds.length:Int)≤c)))

def qO(l:(List Int))(kinds:(List Int)):Option Bool:=
 (dF l (oE kinds)).bind fun r=>
 some (!r)

def qQ(r:Int×Int)(x:Bool):Option (Int×Bool):=
 if x then
 (some (r.1,(r.2==(0:Int))))
 else
 (some ((0:Int),false))

def wB(a1:gF)(kinds:(List Int)):Option (Int×Bool):=
  if(a1.Tag==(1:Int))then
  (some ((2:Int),((a1.Arg.Nodes.length:Int)==(0:Int))))
  else
  ((q0 a1.Arg kinds).bind fun r=>
  if(a1.Tag==(2:Int))then
  (some ((2:Int),(r.2==(0:Int))))
  else
  (if(a1.Tag==(3:Int))then
  (some ((2:Int),((r.2==(0:Int))&&((r.1==(2:Int))||(r.1==(0:Int))))))
  else
  (if(a1.Tag==(4:Int))then
  (qQ r (a1.Tag==(4:Int)))
  else
  (qQ r (a1.Tag==(5:Int))))))

def ek(e:(List Int)):List gF→(List Int)→Bool→Option ((List Int)×Bool)
 |[],cx,ok=>
  some (cx,ok)
 |e2::tl1,cx,ok=>
  (wB e2 e).bind fun r1=>
  (iC cx ([r1.1])).bind fun s9=>
  (ek e tl1) s9 (ok&&r1.2)

def fG(n:M)(e:(List Int))(t:Bool):List Int→(List Int)→Option ((List Int)×Bool)
 |[],out=>
  ek e n.Aggs out t
 |e1::tl,out=>
  (cK e e1).bind fun e3=>
  (iC out ([e3])).bind fun out3=>
  (fG n e t tl) out3

def fT(c:aq)(n:M):Option ((List Int)×Bool):=
  (cK c.kinds n.A).bind fun e=>
  (if(((decide ((n.Keys.length:Int)≤(3:Int)))&&(decide ((n.Aggs.length:Int)≤(12:Int))))&&(decide ((0:Int)<(IntKind.i64.wrap ((n.Keys.length:Int)+(n.Aggs.length:Int))))))then((qO n.Keys e).bind fun r=>
  some r)else some false).bind fun t=>
  if(!t)then
  (some ([],false))
  else
  (fG n e t n.Keys ([]:List Int))

def eG(c:aq)(n:M):List aT→(List Int)→Bool→Option ((List Int)×Bool)
 |[],out,ok=>
  some (out,ok)
 |e::tl,out,ok=>
  (cK c.kinds n.A).bind fun e1=>
  (q0 e e1).bind fun r=>
  (iC out ([r.1])).bind fun cx=>
  (eG c n tl) cx (ok&&(r.2==(0:Int)))

def eM(c:aq)(n:M):Option ((List Int)×Bool):=
 eG c n n.Items ([]:List Int) ((decide ((1:Int)≤(n.Items.length:Int)))&&(decide ((n.Items.length:Int)≤(16:Int))))

def em(c:aq)(n:M):Option ((List Int)×Bool):=
 (cK c.kinds n.A).bind fun e=>
 some (e,true)

def gD(nx:Nat→(List Int)→Bool→Option ((List Int)×Bool))(i:Nat)(e2:Int)(ok:Bool)(cx:List Int):Option ((List Int)×Bool):=
  (if ok then((cK cx (i:Int)).bind fun e3=>
  some ((e3==e2)||(e2==(0:Int))))else some false).bind fun t=>
  nx (i+1) cx t

def de:List Int→Nat→(List Int)→Bool→Option ((List Int)×Bool)
  |[],i,out,ok=>
    some (out,ok)
  |e2::tl,i,out,ok=>
    (cK out (i:Int)).bind fun e4=>
    if(e4==(0:Int))then
    ((some (out.set (i:Int).toNat e2)).bind fun st=>
    gD (de tl) i e2 ok st)
    else
    (gD (de tl) i e2 ok out)

def fR(c:aq)(n:M):Option ((List Int)×Bool):=
  (cK c.kinds n.A).bind fun e=>
  (cK c.kinds n.B).bind fun e1=>
  if((e.length:Int) !=(e1.length:Int))then
  (some ([],false))
  else
  ((bI e).bind fun r=>
  de e1 0 r true)

def jz(in1:(List Int))(o:kT):Option Bool:=
 some ((decide (o.Col<(0:Int)))||(decide ((in1.length:Int)≤o.Col)))

def dh(f:(kT→Option Bool)):List kT→Nat→Option Int
 |[],i=>
  some (-1:Int)
 |e::tl,i=>
  (f e).bind fun r=>
  if r then
  (some (i:Int))
  else
  ((dh f tl) (i+1))

def gA(s:(List kT))(f:(kT→Option Bool)):Option Int:=
 dh f s 0

def d2(s:(List kT))(f:(kT→Option Bool)):Option Bool:=
 (gA s f).bind fun r=>
 some (decide ((0:Int)≤r))

def fS(c:aq)(n:M):Option ((List Int)×Bool):=
  (cK c.kinds n.A).bind fun e=>
  (if(decide ((n.Order.length:Int)≤(3:Int)))then((d2 n.Order (jz e)).bind fun r=>
  some (!r))else some false).bind fun t=>
  some (e,(((t&&(decide ((-1:Int)≤n.Limit)))&&(decide (n.Limit≤(2147483647:Int))))&&((c.kinds.length:Int)==(IntKind.i64.wrap ((c.Logic.Nodes.length:Int)-(1:Int))))))

def rt(n:M):Option Bool:=
 some (((((((((n.Table==(0:Int))&&((n.Kinds.length:Int)==(0:Int)))&&(!n.Left))&&((n.Cond.Nodes.length:Int)==(0:Int)))&&((n.Keys.length:Int)==(0:Int)))&&((n.Aggs.length:Int)==(0:Int)))&&((n.Items.length:Int)==(0:Int)))&&((n.Order.length:Int)==(0:Int)))&&(n.Limit==(0:Int)))

def ru(n:M):Option M:=
  if(n.Op==(1:Int))then
  (some (M.mk n.Op n.A n.B (0:Int) ([]) n.Left n.Cond n.Keys n.Aggs n.Items n.Order n.Limit))
  else
  (if(n.Op==(2:Int))then
  (some (M.mk n.Op n.A n.B n.Table n.Kinds false (⟨[]⟩:aT) n.Keys n.Aggs n.Items n.Order n.Limit))
  else
  (if(n.Op==(3:Int))then
  (some (M.mk n.Op n.A n.B n.Table n.Kinds n.Left (⟨[]⟩:aT) n.Keys n.Aggs n.Items n.Order n.Limit))
  else
  (if(n.Op==(4:Int))then
  (some (M.mk n.Op n.A n.B n.Table n.Kinds n.Left n.Cond ([]) ([]) n.Items n.Order n.Limit))
  else
  (if(n.Op==(5:Int))then
  (some (M.mk n.Op n.A n.B n.Table n.Kinds n.Left n.Cond n.Keys n.Aggs ([]) n.Order n.Limit))
  else
  (if(n.Op==(8:Int))then
  (some (M.mk n.Op n.A n.B n.Table n.Kinds n.Left n.Cond n.Keys n.Aggs n.Items ([]) (0:Int)))
  else
  (some n))))))

def oF(x:Bool):Option Int:=
 if x then
 (some (2:Int))
 else
 (some (1:Int))

def sw(op:Int):Option Int:=
  if(op==(1:Int))then
  (some (0:Int))
  else
  (if(op==(2:Int))then
  (oF (op==(2:Int)))
  else
  (oF (op==(7:Int))))

def iJ(c:aq)(i:Int):Option (Int×Bool):=
  (cK c.Logic.Nodes i).bind fun e=>
  (sw e.Op).bind fun r=>
  if(r==(0:Int))then
  (some (i,((e.A==(-1:Int))&&(e.B==(-1:Int)))))
  else
  (if(r==(1:Int))then
  (if(((e.A !=(IntKind.i64.wrap (i-(1:Int))))||(e.B !=(-1:Int)))||(i==(0:Int)))then
  (some ((0:Int),false))
  else
  ((cK c.first e.A).bind fun e1=>
  some (e1,true)))
  else
  ((if(!((e.B !=(IntKind.i64.wrap (i-(1:Int))))||(i==(0:Int))))then((cK c.first e.B).bind fun e2=>
  some (e.A !=(IntKind.i64.wrap (e2-(1:Int)))))else some true).bind fun t=>
  if(t||(decide (e.A<(0:Int))))then
  (some ((0:Int),false))
  else
  ((cK c.first e.A).bind fun e3=>
  some (e3,true))))

def fH{Sg:Type}(yld:(Int×Bool)→Sg→Option (Bool×Sg))(nx:Nat→Sg→aq→Option (Sg×aq))(i:Nat)(s1:Sg)(ok1:Bool)(kinds:(List Int))(ob2:aq):Option (Sg×aq):=
 (iC ob2.kinds ([kinds])).bind fun l6=>
 (yld ((i:Int),(ok1&&(decide ((kinds.length:Int)≤(16:Int))))) s1).bind fun r2=>
 if((!r2.1)||(!(ok1&&(decide ((kinds.length:Int)≤(16:Int))))))then
 (some (r2.2,({ob2 with kinds:=l6}:aq)))
 else
 (nx (i+1) r2.2 ({ob2 with kinds:=l6}:aq))

def dE{Sg:Type}(yld:(Int×Bool)→Sg→Option (Bool×Sg))(nx:Nat→Sg→aq→Option (Sg×aq))(i:Nat)(e2:M)(s1:Sg)(ok:Bool)(ob1:aq):Option (Sg×aq):=
  if ok then
  ((((qw (dM (dM (dM (dM (dM (dM (dM (dM ([]:List (Int×(aq→M→Option (((List Int)×Bool)×aq)))) (1:Int) (fun(mc:aq) (mx:M)=>(ff mc mx).map fun mr=>(mr,mc))) (2:Int) (fun(mc:aq) (mx:M)=>(gk mc mx).map fun mr=>(mr,mc))) (3:Int) (fun(mc:aq) (mx:M)=>(fg mc mx).map fun mr=>(mr,mc))) (4:Int) (fun(mc:aq) (mx:M)=>(fT mc mx).map fun mr=>(mr,mc))) (5:Int) (fun(mc:aq) (mx:M)=>(eM mc mx).map fun mr=>(mr,mc))) (6:Int) (fun(mc:aq) (mx:M)=>(em mc mx).map fun mr=>(mr,mc))) (7:Int) (fun(mc:aq) (mx:M)=>(fR mc mx).map fun mr=>(mr,mc))) (8:Int) (fun(mc:aq) (mx:M)=>(fS mc mx).map fun mr=>(mr,mc))) e2.Op).getD (fun _ _=>none)) ob1 (e2)).bind fun r3=>
  fH yld nx i s1 r3.1.2 r3.1.1 r3.2)
  else
  (fH yld nx i s1 ok ([]) ob1)

def bp{Sg:Type}(yld:(Int×Bool)→Sg→Option (Bool×Sg)):List M→Nat→Sg→aq→Option (Sg×aq)
  |[],i,s1,ob=>
    some (s1,ob)
  |e2::tl,i,s1,ob=>
    (if((qw (dM (dM (dM (dM (dM (dM (dM (dM ([]:List (Int×(aq→M→Option (((List Int)×Bool)×aq)))) (1:Int) (fun(mc:aq) (mx:M)=>(ff mc mx).map fun mr=>(mr,mc))) (2:Int) (fun(mc:aq) (mx:M)=>(gk mc mx).map fun mr=>(mr,mc))) (3:Int) (fun(mc:aq) (mx:M)=>(fg mc mx).map fun mr=>(mr,mc))) (4:Int) (fun(mc:aq) (mx:M)=>(fT mc mx).map fun mr=>(mr,mc))) (5:Int) (fun(mc:aq) (mx:M)=>(eM mc mx).map fun mr=>(mr,mc))) (6:Int) (fun(mc:aq) (mx:M)=>(em mc mx).map fun mr=>(mr,mc))) (7:Int) (fun(mc:aq) (mx:M)=>(fR mc mx).map fun mr=>(mr,mc))) (8:Int) (fun(mc:aq) (mx:M)=>(fS mc mx).map fun mr=>(mr,mc))) e2.Op).isSome)then((ru e2).bind fun r=>
    (rt r).bind fun r1=>
    some r1)else some false).bind fun t=>
    if t then
    ((iJ ob (i:Int)).bind fun r4=>
    (iC ob.first ([r4.1])).bind fun l7=>
    dE yld (bp yld tl) i e2 s1 r4.2 ({ob with first:=l7}:aq))
    else
    (dE yld (bp yld tl) i e2 s1 t ob)

def ky{Sg:Type}(c:aq)(yld:(Int×Bool)→Sg→Option (Bool×Sg))(s:Sg):Option (Sg×aq):=
 bp yld c.Logic.Nodes 0 s c

def oG(c:aq):Option (KN (Int×Bool) aq):=
 some (fun _=>ky c)

def m5(x:Int×Bool)(x1:Bool)(x2:Int)(p:Bool):Option (Option Nat×(Bool×Int×Bool)):=
 if(!x.2)then
 (some (some 0,(false,x.1,true)))
 else
 (some (none,(x1,x2,p)))

def lg(l:bK):Option (aq×Int×Bool):=
  if((decide ((l.Nodes.length:Int)<(1:Int)))||(decide ((60:Int)<(l.Nodes.length:Int))))then
  (some ((⟨l,[],[]⟩:aq),(0:Int),false))
  else
  ((oG (⟨l,[],[]⟩:aq)).bind fun it=>
  (it (Option Nat×(Bool×Int×Bool)) (xf (fun x s=>m5 x s.1 s.2.1 s.2.2)) (none,(false,(0:Int),false))).bind fun r=>
  if r.1.1.isNone then
  ((cK r.2.first (IntKind.i64.wrap ((l.Nodes.length:Int)-(1:Int)))).bind fun e=>
  some (r.2,(IntKind.i64.wrap ((l.Nodes.length:Int)-(1:Int))),(e==(0:Int))))
  else
  ((VA r.1.2.2.2).bind fun _=>
  some (r.2,r.1.2.2.1,r.1.2.1)))

def qk(l:bK):Option ((List Int)×Int):=
  (lg l).bind fun r=>
  if(!r.2.2)then
  (some ([],(230:Int)))
  else
  ((cK r.1.kinds r.2.1).bind fun e=>
  (bI e).bind fun r1=>
  some (r1,(0:Int)))

def sx(l:bK):Option (Int×Int):=
 (lg l).bind fun r=>
 if(!r.2.2)then
 (some (r.2.1,(230:Int)))
 else
 (some ((0:Int),(0:Int)))

def tK(c:Int):Option Bool:=
 some ((decide ((97:Int)≤c))&&(decide (c≤(122:Int))))

def d9(v:gV):List gV→Nat→Option Int
 |[],i=>
  some (-1:Int)
 |e::tl,i=>
  if(v==e)then
  (some (i:Int))
  else
  ((d9 v tl) (i+1))

def jh(s:(List gV))(v:gV):Option Int:=
 d9 v s 0

def hY(s:(List gV))(v:gV):Option Bool:=
 (jh s v).bind fun r=>
 some (decide ((0:Int)≤r))

def uC(s:gV):Option Bool:=
 (hY TG s).bind fun r=>
 some r

def iw(s:gV):Option gV:=if s.length<35184372088832 then some (Lib.toUpperD s)else none

def wC(c:Int):Option Bool:=
 some ((decide ((48:Int)≤c))&&(decide (c≤(57:Int))))

def m6:List (Int×Int)→Option Bool
  |[]=>
    some true
  |e::tl=>
    (wC e.2).bind fun r3=>
    (if(!r3)then((tK e.2).bind fun r4=>
    some (!r4))else some false).bind fun t2=>
    if(t2&&(e.2 !=(95:Int)))then
    (some false)
    else
    ((m6 tl))

def px(s:gV):Option Bool:=
  (if(!((s==([]))||(decide ((16:Int)<(s.length:Int)))))then((yV s (0:Int)).bind fun b=>
  (tK (IntKind.i32.wrap b)).bind fun r=>
  some (!r))else some true).bind fun t=>
  (if(!t)then((iw s).bind fun r1=>
  (uC r1).bind fun r2=>
  some r2)else some true).bind fun t1=>
  if t1 then
  (some false)
  else
  (m6 (GK s))

def cq(f:(bn→Option Bool)):List bn→Nat→Option Int
 |[],i=>
  some (-1:Int)
 |e::tl,i=>
  (f e).bind fun r=>
  if r then
  (some (i:Int))
  else
  ((cq f tl) (i+1))

def eV(s:(List bn))(f:(bn→Option Bool)):Option Int:=
 cq f s 0

def ef(of:(bn→Option gV))(name:gV)(p:bn):Option Bool:=
 (of p).bind fun r=>
 some (r==name)

def il(l:(List bn))(of:(bn→Option gV))(name:gV):Option (Int×Bool):=
 (eV l (ef of name)).bind fun r=>
 some ((max r (0:Int)),decide ((0:Int)≤r))

def fh(l:(List bn))(of:(bn→Option gV)):List bn→Nat→Option Bool
  |[],i=>
    some true
  |e::tl,i=>
    (of e).bind fun r=>
    (il l of r).bind fun r1=>
    (if(!(r1.1 !=(i:Int)))then((of e).bind fun r2=>
    (px r2).bind fun r3=>
    some (!r3))else some true).bind fun t=>
    if t then
    (some false)
    else
    ((fh l of tl) (i+1))

def kQ(l:(List bn))(of:(bn→Option gV)):Option Bool:=
 fh l of l 0

def ep(c:bn):Option gV:=
 some c.Name

def iB(kind:Int):Nat→Nat→Option gV
 |0,i=>
  some ([])
 |k1+1,i=>
  (cK RT (i:Int)).bind fun e1=>
  if(e1.kind==kind)then
  (some e1.word)
  else
  ((iB kind k1) (i+1))

def qT(kind:Int):Option gV:=
 iB kind 3 0

def eN(t:br):List Int→Nat→Bool→Option Int
  |[],i1,ok1=>
    if(!ok1)then
    (some (211:Int))
    else
    (some (0:Int))
  |e1::tl1,i1,ok1=>
    (if((ok1&&(decide ((0:Int)≤e1)))&&(decide (e1<(t.Columns.length:Int))))then((if(!((i1:Int)==(0:Int)))then((cK t.Keys (IntKind.i64.wrap ((i1:Int)-(1:Int)))).bind fun e2=>
    some (decide (e2<e1)))else some true).bind fun t3=>
    some t3)else some false).bind fun t2=>
    (eN t tl1) (i1+1) t2

def ga(t:br):List bn→Bool→Option Int
  |[],ok=>
    eN t t.Keys 0 ok
  |e::tl,ok=>
    (if ok then((qT e.Kind).bind fun r2=>
    some (!(r2==([]))))else some false).bind fun t4=>
    (ga t tl) t4

def lr(t:br):Option Int:=
  (px t.Name).bind fun r=>
  (if((r&&(decide ((1:Int)≤(t.Columns.length:Int))))&&(decide ((t.Columns.length:Int)≤(4:Int))))then((kQ t.Columns ep).bind fun r1=>
  some r1)else some false).bind fun t1=>
  ga t t.Columns t1

def jI(t:br):Option Bool:=
 (lr t).bind fun r=>
 some (r !=(0:Int))

def bL(f:(br→Option Bool)):List br→Nat→Option Int
 |[],i=>
  some (-1:Int)
 |e::tl,i=>
  (f e).bind fun r=>
  if r then
  (some (i:Int))
  else
  ((bL f tl) (i+1))

def cX(s:(List br))(f:(br→Option Bool)):Option Int:=
 bL f s 0

def eS(s:(List br))(f:(br→Option Bool)):Option Bool:=
 (cX s f).bind fun r=>
 some (decide ((0:Int)≤r))

def eH(of:(br→Option gV))(name:gV)(p:br):Option Bool:=
 (of p).bind fun r=>
 some (r==name)

def iU(l:(List br))(of:(br→Option gV))(name:gV):Option (Int×Bool):=
 (cX l (eH of name)).bind fun r=>
 some ((max r (0:Int)),decide ((0:Int)≤r))

def fK(l:(List br))(of:(br→Option gV)):List br→Nat→Option Bool
  |[],i=>
    some true
  |e::tl,i=>
    (of e).bind fun r=>
    (iU l of r).bind fun r1=>
    (if(!(r1.1 !=(i:Int)))then((of e).bind fun r2=>
    (px r2).bind fun r3=>
    some (!r3))else some true).bind fun t=>
    if t then
    (some false)
    else
    ((fK l of tl) (i+1))

def lq(l:(List br))(of:(br→Option gV)):Option Bool:=
 fK l of l 0

def eQ(t:br):Option gV:=
 some t.Name

def pT(c:bG):Option Int:=
  (if(!(decide ((4:Int)<(c.Tables.length:Int))))then((eS c.Tables jI).bind fun r=>
  some r)else some true).bind fun t=>
  (if(!t)then((lq c.Tables eQ).bind fun r1=>
  some (!r1))else some true).bind fun t1=>
  if t1 then
  (some (210:Int))
  else
  (some (0:Int))

def eT(s2:(List Int)):List Int→Nat→Option Bool
 |[],i=>
  some true
 |e::tl,i=>
  (cK s2 (i:Int)).bind fun e1=>
  if(e !=e1)then
  (some false)
  else
  ((eT s2 tl) (i+1))

def ed(s1:(List Int))(s2:(List Int)):Option Bool:=
 if((s1.length:Int) !=(s2.length:Int))then
 (some false)
 else
 (eT s2 s1 0)

def pP(nx:Option Bool):Option Bool:=
 nx

def lM(nx:Option Bool)(e:M):List bn→(List Int)→Option Bool
 |[],kinds=>
  (ed kinds e.Kinds).bind fun r=>
  if(!r)then
  (some false)
  else
  (pP nx)
 |e2::tl1,kinds=>
  (iC kinds ([e2.Kind])).bind fun kinds1=>
  (lM nx e tl1) kinds1

def i7(c:bG):List M→Option Bool
  |[]=>
    some true
  |e::tl=>
    if(e.Op !=(1:Int))then
    (pP (i7 c tl))
    else
    (if(decide ((c.Tables.length:Int)≤e.Table))then
    (some false)
    else
    ((cK c.Tables e.Table).bind fun e1=>
    lM (i7 c tl) e e1.Columns ([]:List Int)))

def xF(l:bK)(c:bG):Option Bool:=
 i7 c l.Nodes

def dz(s:(List kT)):Option (List kT):=
 (iC ([]:List kT) s).bind fun x=>
 some x

def bC(s:(List aU)):Option (List aU):=
 (iC ([]:List aU) s).bind fun x=>
 some x

def ew(s:(List gF)):Option (List gF):=
 (iC ([]:List gF) s).bind fun x=>
 some x

def dU(s:(List aT)):Option (List aT):=
 (iC ([]:List aT) s).bind fun x=>
 some x

def lC:List aT→Nat→M→Option M
 |[],i1,n4=>
  some n4
 |e1::tl1,i1,n4=>
  (cK n4.Items (i1:Int)).bind fun e2=>
  (bC e2.Nodes).bind fun r6=>
  (some (n4.Items.set (i1:Int).toNat ({e2 with Nodes:=r6}:aT))).bind fun st=>
  (lC tl1) (i1+1) ({n4 with Items:=st}:M)

def lD:List gF→Nat→M→Option M
 |[],i,n3=>
  lC n3.Items 0 n3
 |e::tl,i,n3=>
  (cK n3.Aggs (i:Int)).bind fun e3=>
  (bC e3.Arg.Nodes).bind fun r7=>
  (some (n3.Aggs.set (i:Int).toNat ({e3 with Arg:=({e3.Arg with Nodes:=r7}:aT)}:gF))).bind fun st1=>
  (lD tl) (i+1) ({n3 with Aggs:=st1}:M)

def lE(n2:M):Option M:=
 (bI n2.Kinds).bind fun r=>
 (bI n2.Keys).bind fun r1=>
 (dz n2.Order).bind fun r2=>
 (bC (((M.mk n2.Op n2.A n2.B n2.Table r n2.Left n2.Cond r1 n2.Aggs n2.Items r2 n2.Limit).Cond).Nodes)).bind fun r3=>
 (ew (({(M.mk n2.Op n2.A n2.B n2.Table r n2.Left n2.Cond r1 n2.Aggs n2.Items r2 n2.Limit)with Cond:=({(M.mk n2.Op n2.A n2.B n2.Table r n2.Left n2.Cond r1 n2.Aggs n2.Items r2 n2.Limit).Cond with Nodes:=r3}:aT)}:M).Aggs)).bind fun r4=>
 (dU (({(M.mk n2.Op n2.A n2.B n2.Table r n2.Left n2.Cond r1 n2.Aggs n2.Items r2 n2.Limit)with Cond:=({(M.mk n2.Op n2.A n2.B n2.Table r n2.Left n2.Cond r1 n2.Aggs n2.Items r2 n2.Limit).Cond with Nodes:=r3}:aT)}:M).Items)).bind fun r5=>
 lD r4 0 ({({({(M.mk n2.Op n2.A n2.B n2.Table r n2.Left n2.Cond r1 n2.Aggs n2.Items r2 n2.Limit)with Cond:=({(M.mk n2.Op n2.A n2.B n2.Table r n2.Left n2.Cond r1 n2.Aggs n2.Items r2 n2.Limit).Cond with Nodes:=r3}:aT)}:M)with Aggs:=r4}:M)with Items:=r5}:M)

def ni(by1:Int)(n1:M):Option M:=
 if(decide ((0:Int)≤n1.B))then
 (lE (M.mk n1.Op n1.A (IntKind.i64.wrap (n1.B+by1)) n1.Table n1.Kinds n1.Left n1.Cond n1.Keys n1.Aggs n1.Items n1.Order n1.Limit))
 else
 (lE n1)

def qP(n:M)(by1:Int):Option M:=
 if(decide ((0:Int)≤n.A))then
 (ni by1 (M.mk n.Op (IntKind.i64.wrap (n.A+by1)) n.B n.Table n.Kinds n.Left n.Cond n.Keys n.Aggs n.Items n.Order n.Limit))
 else
 (ni by1 n)

def lP(l:bK)(place:Int)(e:Int):Nat→Int→bK→Option (bK×Int)
  |0,_,_=>none
  |n+1,i,out=>
    if(decide (i≤place))then
    ((cK l.Nodes i).bind fun e1=>
    (qP e1 (IntKind.i64.wrap (0-e))).bind fun r1=>
    (iC out.Nodes ([r1])).bind fun l2=>
    (lP l place e n) (IntKind.i64.wrap (i+(1:Int))) ({out with Nodes:=l2}:bK))
    else
    (some (out,(0:Int)))

def uA(l:bK)(place:Int):Option (bK×Int):=
  (lg l).bind fun r=>
  if(!r.2.2)then
  (some ((⟨[]⟩:bK),(230:Int)))
  else
  (if((decide (place<(0:Int)))||(decide ((l.Nodes.length:Int)≤place)))then
  (some ((⟨[]⟩:bK),(2:Int)))
  else
  ((cK r.1.first place).bind fun e=>
  lP l place e dj e ({(⟨[]⟩:bK)with Nodes:=([]:List M)}:bK)))

def jS(p:ay)(s:aG)(cols:(List Int))(l:List bk)(r1:(List Int))(at1:Int):Option (aG×ay):=
 some ((⟨[(⟨(9:Int),(-1:Int),(-1:Int),(IntKind.i64.wrap ((l.length:Int)-(1:Int))),r1,false,(⟨[]⟩:aT),[],[],[],[],(0:Int)⟩:M)],s.kinds,at1,cols⟩:aG),({p with Plan:=({p.Plan with Frags:=l}:cC)}:ay))

def dm(p:ay)(s:aG)(way:Int)(cols:(List Int)):Option (aG×ay):=
 (bI cols).bind fun r=>
 (iC p.Plan.Frags ([(⟨s.nodes,s.at_,way,r⟩:bk)])).bind fun l=>
 (bI s.kinds).bind fun r1=>
 if(way==(3:Int))then
 (jS p s cols l r1 (2:Int))
 else
 (jS p s cols l r1 (1:Int))

def cU(p:ay)(s:aG):Option (aG×ay):=
  if(s.at_==(2:Int))then
  (some (s,p))
  else
  ((dm p s (3:Int) ([])).bind fun r=>
  some (r.1,r.2))

def ij(p:ay)(n:M)(kinds:(List Int))(x:(List aG)):Option aG:=
 (cK p.catalog.Tables n.Table).bind fun e=>
 some (⟨[n],kinds,(1:Int),e.Keys⟩:aG)

def dB(s:(List M)):Option (List M):=
 (iC ([]:List M) s).bind fun x=>
 some x

def oB(nx1:aG→Option aG)(cx:aG)(x1:M):Option aG:=
 (iC cx.nodes ([x1])).bind fun l6=>
 nx1 ({cx with nodes:=l6}:aG)

def oC(out:aG)(nx1:aG→Option aG)(cx:aG)(x:M):Option aG:=
 if(decide ((0:Int)≤x.B))then
 (oB nx1 cx (M.mk x.Op x.A (IntKind.i64.wrap (x.B+(out.nodes.length:Int))) x.Table x.Kinds x.Left x.Cond x.Keys x.Aggs x.Items x.Order x.Limit))
 else
 (oB nx1 cx x)

def cV(nx:Nat→M→aG→Option aG)(i:Nat)(n1:M)(out:aG):List M→aG→Option aG
 |[],cx=>
  if((i:Int)==(0:Int))then
  (nx (i+1) (M.mk n1.Op (IntKind.i64.wrap ((cx.nodes.length:Int)-(1:Int))) n1.B n1.Table n1.Kinds n1.Left n1.Cond n1.Keys n1.Aggs n1.Items n1.Order n1.Limit) cx)
  else
  (nx (i+1) (M.mk n1.Op n1.A (IntKind.i64.wrap ((cx.nodes.length:Int)-(1:Int))) n1.Table n1.Kinds n1.Left n1.Cond n1.Keys n1.Aggs n1.Items n1.Order n1.Limit) cx)
 |e2::tl1,cx=>
  if(decide ((0:Int)≤e2.A))then
  (oC out (cV nx i n1 out tl1) cx (M.mk e2.Op (IntKind.i64.wrap (e2.A+(out.nodes.length:Int))) e2.B e2.Table e2.Kinds e2.Left e2.Cond e2.Keys e2.Aggs e2.Items e2.Order e2.Limit))
  else
  (oC out (cV nx i n1 out tl1) cx e2)

def ei:List aG→Nat→M→aG→Option aG
 |[],i,n1,out=>
  (iC out.nodes ([n1])).bind fun l2=>
  some ({out with nodes:=l2}:aG)
 |e1::tl,i,n1,out=>
  (dB e1.nodes).bind fun r=>
  cV (ei tl) i n1 out r out

def dH(n:M)(kinds:(List Int))(l:(List aG)):Option aG:=
 (cK l (0:Int)).bind fun e=>
 ei l 0 (M.mk n.Op (-1:Int) (-1:Int) n.Table n.Kinds n.Left n.Cond n.Keys n.Aggs n.Items n.Order n.Limit) ({(⟨[],kinds,e.at_,[]⟩:aG)with nodes:=([]:List M)}:aG)

def eD(s:aG)(columns:(List Int)):Option aG:=
 some (aG.mk s.nodes s.kinds s.at_ columns)

def gG(p:ay)(n:M)(kinds:(List Int))(l:(List aG)):Option aG:=
 (cK l (0:Int)).bind fun e=>
 (dH n kinds ([e])).bind fun r=>
 (eD r e.hashed).bind fun r1=>
 some r1

def dT(v:Int):List Int→Nat→Option Int
 |[],i=>
  some (-1:Int)
 |e::tl,i=>
  if(v==e)then
  (some (i:Int))
  else
  ((dT v tl) (i+1))

def jP(s:(List Int))(v:Int):Option Int:=
 dT v s 0

def mj(of:(List Int))(among:(List Int)):List Int→(List Int)→Option ((List Int)×Bool)
  |[],out=>
    some (out,decide ((0:Int)<(of.length:Int)))
  |e::tl,out=>
    (jP among e).bind fun r=>
    if(decide (r<(0:Int)))then
    (some ([],false))
    else
    ((iC out ([r])).bind fun cx=>
    (mj of among tl) cx)

def nN(of:(List Int))(among:(List Int)):Option ((List Int)×Bool):=
 mj of among of ([]:List Int)

def cr(n:M)(kinds:(List Int))(l:(List aG)):List aT→Nat→(List Int)→Option aG
  |[],i1,bare=>
    (cK l (0:Int)).bind fun e1=>
    (nN e1.hashed bare).bind fun r=>
    (dH n kinds ([e1])).bind fun r1=>
    (eD r1 r.1).bind fun r2=>
    some r2
  |e::tl,i1,bare=>
    (cK bare (i1:Int)).bind fun e2=>
    (some (bare.set (i1:Int).toNat (-1:Int))).bind fun st=>
    (if((e.Nodes.length:Int)==(1:Int))then((cK e.Nodes (0:Int)).bind fun e3=>
    some (e3.Tag==(2:Int)))else some false).bind fun t=>
    if t then
    ((cK e.Nodes (0:Int)).bind fun e4=>
    (cK st (i1:Int)).bind fun e5=>
    (some (st.set (i1:Int).toNat e4.Col)).bind fun st1=>
    (cr n kinds l tl) (i1+1) st1)
    else
    ((cr n kinds l tl) (i1+1) st)

def gp(p:ay)(n:M)(kinds:(List Int))(l:(List aG)):Option aG:=
 (ub (n.Items.length:Int) (0:Int)).bind fun mk=>
 cr n kinds l n.Items 0 mk

def cM(f:(aU→Option Bool)):List aU→Nat→Option Int
 |[],i=>
  some (-1:Int)
 |e::tl,i=>
  (f e).bind fun r=>
  if r then
  (some (i:Int))
  else
  ((cM f tl) (i+1))

def fQ(s:(List aU))(f:(aU→Option Bool)):Option Int:=
 cM f s 0

def dx(s:(List aU))(f:(aU→Option Bool)):Option Bool:=
 (fQ s f).bind fun r=>
 some (decide ((0:Int)≤r))

def qp(n:aU):Option Bool:=
 (qz n.Tag).bind fun r=>
 some r

def qZ(e:aT):Option Bool:=
  (nC e).bind fun r=>
  (if(r==(0:Int))then((dx e.Nodes qp).bind fun r1=>
  some (!r1))else some false).bind fun t=>
  some t

def oM(nx:(List aT)→(List Int)→Option (List aT))(cx:List aT)(open2:List Int):Option (List aT):=
 nx cx open2

def oL(e3:Int)(nx1:Nat→aT→Option (List aT))(i:Nat)(part1:aT):Option (List aT):=
  (cK part1.Nodes (i:Int)).bind fun e6=>
  if(decide ((0:Int)≤e6.R))then
  ((some (part1.Nodes.set (i:Int).toNat ({e6 with R:=(IntKind.i64.wrap (e6.R-e3))}:aU))).bind fun st=>
  nx1 (i+1) ({part1 with Nodes:=st}:aT))
  else
  (nx1 (i+1) part1)

def iT(nx:(List aT)→(List Int)→Option (List aT))(out:List aT)(y:List Int)(e3:Int):List aU→Nat→aT→Option (List aT)
  |[],i,part=>
    (iC out ([part])).bind fun s9=>
    oM nx s9 y
  |e4::tl,i,part=>
    (cK part.Nodes (i:Int)).bind fun e5=>
    if(decide ((0:Int)≤e5.L))then
    ((some (part.Nodes.set (i:Int).toNat ({e5 with L:=(IntKind.i64.wrap (e5.L-e3))}:aU))).bind fun st1=>
    oL e3 (iT nx out y e3 tl) i ({part with Nodes:=st1}:aT))
    else
    (oL e3 (iT nx out y e3 tl) i part)

def gE(e:aT)(r:(List Int)×Bool):Nat→(List aT)→(List Int)→Option (List aT)
  |0,_,_=>none
  |n+1,out,open1=>
    if(decide ((0:Int)<(open1.length:Int)))then
    ((cK open1 (IntKind.i64.wrap ((open1.length:Int)-(1:Int)))).bind fun e1=>
    (d6 open1 0 (IntKind.i64.wrap ((open1.length:Int)-(1:Int)))).bind fun y=>
    (cK e.Nodes e1).bind fun e2=>
    if(e2.Tag==(22:Int))then
    ((iC y ([e2.R,e2.L])).bind fun open3=>
    oM (gE e r n) out open3)
    else
    ((cK r.1 e1).bind fun e3=>
    (d6 e.Nodes e3 (IntKind.i64.wrap (e1+(1:Int)))).bind fun y1=>
    (bC y1).bind fun r1=>
    iT (gE e r n) out y e3 r1 0 ({(⟨r1⟩:aT)with Nodes:=r1}:aT)))
    else
    (some out)

def tP(e:aT):Option (List aT):=
 (qo e).bind fun r=>
 if(!r.2)then
 (some ([]:List aT))
 else
 (gE e r dj ([]:List aT) ([(IntKind.i64.wrap ((e.Nodes.length:Int)-(1:Int)))]))

def wI(e:aT)(left:Int):Option (Int×Int×Bool):=
  (nC e).bind fun r=>
  (if(!((r !=(0:Int))||((e.Nodes.length:Int) !=(3:Int))))then((cK e.Nodes (2:Int)).bind fun e1=>
  some (e1.Tag !=(16:Int)))else some true).bind fun t=>
  if t then
  (some ((0:Int),(0:Int),false))
  else
  ((cK e.Nodes (0:Int)).bind fun e2=>
  (cK e.Nodes (1:Int)).bind fun e3=>
  if((e2.Tag !=(2:Int))||(e3.Tag !=(2:Int)))then
  (some ((0:Int),(0:Int),false))
  else
  (if((decide (left≤(min e2.Col e3.Col)))||(decide ((max e2.Col e3.Col)<left)))then
  (some ((0:Int),(0:Int),false))
  else
  (some ((min e2.Col e3.Col),(IntKind.i64.wrap ((max e2.Col e3.Col)-left)),true))))

def mZ(nx:(List Int)→(List Int)→Option ((List Int)×(List Int)))(a2:List Int)(b1:List Int):Option ((List Int)×(List Int)):=
 nx a2 b1

def i8(left:Int):List aT→(List Int)→(List Int)→Option ((List Int)×(List Int))
  |[],a1,b=>
    some (a1,b)
  |e::tl,a1,b=>
    (wI e left).bind fun r1=>
    if(!r1.2.2)then
    ((qZ e).bind fun r2=>
    if(!r2)then
    (some ([],[]))
    else
    (mZ (i8 left tl) a1 b))
    else
    (if(decide ((a1.length:Int)<(16:Int)))then
    ((iC a1 ([r1.1])).bind fun a3=>
    (iC b ([r1.2.1])).bind fun b3=>
    mZ (i8 left tl) a3 b3)
    else
    (mZ (i8 left tl) a1 b))

def uw(cond:aT)(left:Int):Option ((List Int)×(List Int)):=
 (tP cond).bind fun r=>
 i8 left r ([]:List Int) ([]:List Int)

def je(other:(List Int))(r:(List Int)×Bool):List Int→(List Int)→Option ((List Int)×Bool)
 |[],out=>
  some (out,r.2)
 |e::tl,out=>
  (cK other e).bind fun e1=>
  (iC out ([e1])).bind fun cx=>
  (je other r tl) cx

def hU(of:(List Int))(among:(List Int))(other:(List Int)):Option ((List Int)×Bool):=
 (nN of among).bind fun r=>
 je other r r.1 ([]:List Int)

def fc(n:M)(kinds:(List Int))(a1:aG)(b2:aG)(ob:ay):Option (aG×ay):=
 (dH n kinds ([a1,b2])).bind fun r7=>
 (eD r7 a1.hashed).bind fun r8=>
 some (r8,ob)

def ik(p:ay)(n:M)(kinds:(List Int))(l:(List aG)):Option (aG×ay):=
  (cK l (0:Int)).bind fun e=>
  (cK l (1:Int)).bind fun e1=>
  if((e.at_==(2:Int))||(e1.at_==(2:Int)))then
  ((cU p e).bind fun r=>
  (cU r.2 e1).bind fun r1=>
  (dH n kinds ([r.1,r1.1])).bind fun r2=>
  some (r2,r1.2))
  else
  ((uw n.Cond (e.kinds.length:Int)).bind fun r3=>
  if((r3.1.length:Int)==(0:Int))then
  ((dm p e1 (2:Int) ([])).bind fun r4=>
  (dH n kinds ([e,r4.1])).bind fun r5=>
  (eD r5 e.hashed).bind fun r6=>
  some (r6,r4.2))
  else
  ((hU e.hashed r3.1 r3.2).bind fun r9=>
  if r9.2 then
  ((ed e1.hashed r9.1).bind fun r10=>
  if(!r10)then
  ((dm p e1 (1:Int) r9.1).bind fun r11=>
  fc n kinds e r11.1 r11.2)
  else
  (fc n kinds e e1 p))
  else
  ((hU e1.hashed r3.2 r3.1).bind fun r12=>
  if r12.2 then
  ((dm p e (1:Int) r12.1).bind fun r13=>
  fc n kinds r13.1 e1 r13.2)
  else
  ((dm p e (1:Int) r3.1).bind fun r14=>
  (dm r14.2 e1 (1:Int) r3.2).bind fun r15=>
  fc n kinds r14.1 r15.1 r15.2))))

def mF(n:Int):Nat→(List Int)→Int→Option (List Int)
  |0,_,_=>none
  |n1+1,out,x=>
    if(decide (x<n))then
    ((iC out ([x])).bind fun cx=>
    (mF n n1) cx (IntKind.i64.wrap (x+(1:Int))))
    else
    (some out)

def qW(n:Int):Option (List Int):=
 mF n dj ([]:List Int) (0:Int)

def iz(n:M):List gF→Nat→(List Int)→Option (List Int)
  |[],i,out=>
    some out
  |e::tl,i,out=>
    if(e.Tag==(3:Int))then
    ((cK out (IntKind.i64.wrap ((n.Keys.length:Int)+(i:Int)))).bind fun e1=>
    (some (out.set (IntKind.i64.wrap ((n.Keys.length:Int)+(i:Int))).toNat (4:Int))).bind fun st=>
    (iz n tl) (i+1) st)
    else
    ((iz n tl) (i+1) out)

def oA(n:M)(kinds:(List Int)):Option (List Int):=
 (bI kinds).bind fun r=>
 iz n n.Aggs 0 r

def dP(kinds:(List Int))(r4:(List Int))(r7:aG×ay):List gF→M→Option (aG×ay)
 |[],last=>
  (dH last kinds ([r7.1])).bind fun r8=>
  (eD r8 r4).bind fun r9=>
  some (r9,r7.2)
 |e1::tl,last=>
  (iC last.Aggs ([(⟨e1.Tag,(⟨[]⟩:aT)⟩:gF)])).bind fun l3=>
  (dP kinds r4 r7 tl) ({last with Aggs:=l3}:M)

def gN(p:ay)(n:M)(kinds:(List Int))(e:aG)(r4:(List Int))(way:Int):Option (aG×ay):=
 (oA (M.mk (10:Int) n.A n.B n.Table n.Kinds n.Left n.Cond n.Keys n.Aggs n.Items n.Order n.Limit) kinds).bind fun r5=>
 (dH (M.mk (10:Int) n.A n.B n.Table n.Kinds n.Left n.Cond n.Keys n.Aggs n.Items n.Order n.Limit) r5 ([e])).bind fun r6=>
 (dm p r6 way r4).bind fun r7=>
 dP kinds r4 r7 n.Aggs ({(⟨(11:Int),(0:Int),(0:Int),(0:Int),[],false,(⟨[]⟩:aT),r4,[],[],[],(0:Int)⟩:M)with Aggs:=([]:List gF)}:M)

def gS(p:ay)(n:M)(kinds:(List Int))(l:(List aG)):Option (aG×ay):=
  (cK l (0:Int)).bind fun e=>
  if(e.at_==(2:Int))then
  ((dH n kinds ([e])).bind fun r=>
  some (r,p))
  else
  ((nN e.hashed n.Keys).bind fun r1=>
  if r1.2 then
  ((dH n kinds ([e])).bind fun r2=>
  (eD r2 r1.1).bind fun r3=>
  some (r3,p))
  else
  ((qW (n.Keys.length:Int)).bind fun r4=>
  if((r4.length:Int)==(0:Int))then
  (gN p n kinds e r4 (3:Int))
  else
  (gN p n kinds e r4 (1:Int))))

def f9(p:ay)(n:M)(kinds:(List Int))(l:(List aG)):Option (aG×ay):=
  (cK l (0:Int)).bind fun e=>
  if((e.at_==(2:Int))||(decide ((0:Int)<(e.hashed.length:Int))))then
  ((dH n kinds ([e])).bind fun r=>
  (eD r e.hashed).bind fun r1=>
  some (r1,p))
  else
  ((qW (kinds.length:Int)).bind fun r2=>
  (dm p e (1:Int) r2).bind fun r3=>
  (dH n kinds ([r3.1])).bind fun r4=>
  (eD r4 r2).bind fun r5=>
  some (r5,r3.2))

def lS(ob:ay)(out:aG):Option (aG×ay):=
 some (out,ob)

def eK(n:M)(kinds:(List Int))(a1:aG)(b2:aG)(ob:ay):Option (aG×ay):=
  (dH n kinds ([a1,b2])).bind fun r=>
  (if(a1.at_==(1:Int))then((ed a1.hashed b2.hashed).bind fun r1=>
  some r1)else some false).bind fun t=>
  if t then
  (lS ob (aG.mk r.nodes r.kinds r.at_ a1.hashed))
  else
  (lS ob r)

def gQ(p:ay)(n:M)(kinds:(List Int))(l:(List aG)):Option (aG×ay):=
  (cK l (0:Int)).bind fun e=>
  (cK l (1:Int)).bind fun e1=>
  if(e.at_ !=e1.at_)then
  ((cU p e).bind fun r2=>
  (cU r2.2 e1).bind fun r3=>
  eK n kinds r2.1 r3.1 r3.2)
  else
  (eK n kinds e e1 p)

def gR(p:ay)(n:M)(kinds:(List Int))(l:(List aG)):Option (aG×ay):=
  (cK l (0:Int)).bind fun e=>
  (dH n kinds ([e])).bind fun r=>
  if(r.at_==(2:Int))then
  (some (r,p))
  else
  ((cU p r).bind fun r1=>
  (dH n kinds ([r1.1])).bind fun r2=>
  some (r2,r1.2))

def bX(self__:ay→Int→Option (aG×ay))(at1:Int)(e:M):Nat→Nat→(List aG)→ay→Option (aG×ay)
  |0,i,parts,ob=>
    (cK ob.kinds at1).bind fun e2=>
    (((qw (dM (dM (dM (dM (dM (dM (dM (dM ([]:List (Int×(ay→(M×(List Int)×(List aG))→Option (aG×ay)))) (1:Int) (fun(mc:ay) (mx:M×(List Int)×(List aG))=>(ij mc mx.1 mx.2.1 mx.2.2).map fun mr=>(mr,mc))) (3:Int) (fun(mc:ay) (mx:M×(List Int)×(List aG))=>(gG mc mx.1 mx.2.1 mx.2.2).map fun mr=>(mr,mc))) (5:Int) (fun(mc:ay) (mx:M×(List Int)×(List aG))=>(gp mc mx.1 mx.2.1 mx.2.2).map fun mr=>(mr,mc))) (2:Int) (fun(mc:ay) (mx:M×(List Int)×(List aG))=>ik mc mx.1 mx.2.1 mx.2.2)) (4:Int) (fun(mc:ay) (mx:M×(List Int)×(List aG))=>gS mc mx.1 mx.2.1 mx.2.2)) (6:Int) (fun(mc:ay) (mx:M×(List Int)×(List aG))=>f9 mc mx.1 mx.2.1 mx.2.2)) (7:Int) (fun(mc:ay) (mx:M×(List Int)×(List aG))=>gQ mc mx.1 mx.2.1 mx.2.2)) (8:Int) (fun(mc:ay) (mx:M×(List Int)×(List aG))=>gR mc mx.1 mx.2.1 mx.2.2)) e.Op).getD (fun _ _=>none)) ob (e,e2,parts)).bind fun r=>
    some (r.1,r.2)
  |k1+1,i,parts,ob=>
    (cK ([e.A,e.B]) (i:Int)).bind fun e3=>
    if(decide ((0:Int)≤e3))then
    ((self__ ob e3).bind fun r1=>
    (iC parts ([r1.1])).bind fun parts1=>
    (bX self__ at1 e k1) (i+1) parts1 r1.2)
    else
    ((bX self__ at1 e k1) (i+1) parts ob)

def cZ:Nat→ay→Int→Option (aG×ay)
 |0,_,_=>none
 |fu+1,p,at1=>
  (cK p.tree.Nodes at1).bind fun e=>
  bX (cZ fu) at1 e 2 0 ([]:List aG) p

def oz(p:ay)(at1:Int):Option (aG×ay):=
 cZ dj p at1

def nO(f:bk):Option Bool:=
 some (decide ((60:Int)<(f.Nodes.length:Int)))

def cT(f:(bk→Option Bool)):List bk→Nat→Option Int
 |[],i=>
  some (-1:Int)
 |e::tl,i=>
  (f e).bind fun r=>
  if r then
  (some (i:Int))
  else
  ((cT f tl) (i+1))

def gi(s:(List bk))(f:(bk→Option Bool)):Option Int:=
 cT f s 0

def dG(s:(List bk))(f:(bk→Option Bool)):Option Bool:=
 (gi s f).bind fun r=>
 some (decide ((0:Int)≤r))

def jT(l:bK):List M→Nat→ay→Option (cC×Int)
  |[],i,ob=>
    (oz ob (IntKind.i64.wrap ((l.Nodes.length:Int)-(1:Int)))).bind fun r3=>
    (cU r3.2 r3.1).bind fun r4=>
    (iC r4.2.Plan.Frags ([(⟨r4.1.nodes,(2:Int),(4:Int),[]⟩:bk)])).bind fun l3=>
    (if(!(decide ((30:Int)<(l3.length:Int))))then((dG l3 nO).bind fun r5=>
    some r5)else some true).bind fun t=>
    if t then
    (some ((⟨[]⟩:cC),(3:Int)))
    else
    (some (({r4.2 with Plan:=({r4.2.Plan with Frags:=l3}:cC)}:ay).Plan,(0:Int)))
  |e::tl,i,ob=>
    (uA l (i:Int)).bind fun r6=>
    (qk r6.1).bind fun r7=>
    (iC ob.kinds ([r7.1])).bind fun l4=>
    (jT l tl) (i+1) ({ob with kinds:=l4}:ay)

def qX(l:bK)(c:bG):Option (cC×Int):=
  (sx l).bind fun r=>
  if(r.2 !=(0:Int))then
  (some ((⟨[]⟩:cC),r.2))
  else
  ((pT c).bind fun r1=>
  if(r1 !=(0:Int))then
  (some ((⟨[]⟩:cC),r1))
  else
  ((xF l c).bind fun r2=>
  if(!r2)then
  (some ((⟨[]⟩:cC),(2:Int)))
  else
  (jT l l.Nodes 0 (⟨(⟨[]⟩:cC),l,c,[]⟩:ay))))

def po(p:cC)(frag:Int)(nodes:Int):Option Int:=
 if(((((decide ((30:Int)<(p.Frags.length:Int)))||(decide (frag<(0:Int))))||(decide ((p.Frags.length:Int)≤frag)))||(decide (nodes<(1:Int))))||(decide ((8:Int)<nodes)))then
 (some (2:Int))
 else
 (some (0:Int))

def jb{Sg:Type}(from1:Int)(yld:(Int×Int)→Sg→Option (Bool×Sg))(nx:Nat→Sg→Option Sg)(i:Nat):List M→Nat→Sg→Option Sg
  |[],i1,s2=>
    nx (i+1) s2
  |e4::tl1,i1,s2=>
    if((e4.Op==(9:Int))&&(e4.Table==from1))then
    ((yld ((i:Int),(i1:Int)) s2).bind fun r=>
    if(!r.1)then
    (some r.2)
    else
    ((jb from1 yld nx i tl1) (i1+1) r.2))
    else
    ((jb from1 yld nx i tl1) (i1+1) s2)

def jd{Sg:Type}(from1:Int)(yld:(Int×Int)→Sg→Option (Bool×Sg)):List bk→Nat→Sg→Option Sg
 |[],i,s1=>
  some s1
 |e2::tl,i,s1=>
  jb from1 yld (jd from1 yld tl) i e2.Nodes 0 s1

def s6{Sg:Type}(p:cC)(from1:Int)(yld:(Int×Int)→Sg→Option (Bool×Sg))(s:Sg):Option Sg:=
 jd from1 yld p.Frags 0 s

def sn(p:cC)(from1:Int):Option (It (Int×Int)):=
 some (fun _=>s6 p from1)

def vG(x:Int×Int)(x1:Bool)(x2:Int)(x3:Int):Option (Option Nat×(Bool×Int×Int)):=
 some (some 0,(true,x.2,x.1))

def sq(p:cC)(from1:Int):Option (Int×Int×Bool):=
 (sn p from1).bind fun it=>
 ((itU it) (Option Nat×(Bool×Int×Int)) (xf (fun x s=>vG x s.1 s.2.1 s.2.2)) (none,(false,(0:Int),(0:Int)))).bind fun r=>
 if r.1.1.isNone then
 (some ((0:Int),(0:Int),false))
 else
 (some (r.1.2.2.2,r.1.2.2.1,r.1.2.1))

def qc(p:cC)(frag:Int):Option Int:=
 (sq p frag).bind fun r=>
 if r.2.2 then
 (some r.1)
 else
 (some (-1:Int))

def pn(f:bk)(nodes:Int):Option (List Int):=
  if(f.At==(2:Int))then
  (some ([(0:Int)]))
  else
  ((qW (IntKind.i64.wrap (nodes+(1:Int)))).bind fun r=>
  (d6 r (1:Int) (r.length:Int)).bind fun y=>
  some y)

def s8{Sg:Type}(nx:Nat→Sg→Option Sg)(i:Nat)(s2:Sg):Option Sg:=
 nx (i+1) s2

def s7{Sg:Type}(yld:(dr×Int)→Sg→Option (Bool×Sg))(i:Nat)(r:Int)(nx1:Sg→Option Sg)(e5:Int):List Int→Sg→Option Sg
 |[],s4=>
  nx1 s4
 |e8::tl2,s4=>
  (yld ((⟨(i:Int),e5,e8⟩:dr),r) s4).bind fun r3=>
  if(!r3.1)then
  (some r3.2)
  else
  ((s7 yld i r nx1 e5 tl2) r3.2)

def pQ{Sg:Type}(p:cC)(nodes:Int)(yld:(dr×Int)→Sg→Option (Bool×Sg))(nx:Nat→Sg→Option Sg)(i:Nat)(r:Int):List Int→Sg→Option Sg
 |[],s3=>
  s8 nx i s3
 |e5::tl1,s3=>
  (cK p.Frags r).bind fun e6=>
  (pn e6 nodes).bind fun r2=>
  s7 yld i r (pQ p nodes yld nx i r tl1) e5 r2 s3

def kf{Sg:Type}(p:cC)(nodes:Int)(yld:(dr×Int)→Sg→Option (Bool×Sg)):List bk→Nat→Sg→Option Sg
  |[],i,s1=>
    some s1
  |e2::tl,i,s1=>
    (qc p (i:Int)).bind fun r=>
    if(decide (r<(0:Int)))then
    (s8 (kf p nodes yld tl) i s1)
    else
    ((pn e2 nodes).bind fun r1=>
    pQ p nodes yld (kf p nodes yld tl) i r r1 s1)

def xG{Sg:Type}(p:cC)(nodes:Int)(yld:(dr×Int)→Sg→Option (Bool×Sg))(s:Sg):Option Sg:=
 kf p nodes yld p.Frags 0 s

def GX(p:cC)(nodes:Int):Option (It (dr×Int)):=
 some (fun _=>xG p nodes)

def yF(holds:(dr→Int→Option Bool))(x:dr×Int)(xs:List dr):Option (List dr):=
  (holds x.1 x.2).bind fun r=>
  if r then
  ((iC xs ([x.1])).bind fun l1=>
  some l1)
  else
  (some xs)

def D3(p:cC)(nodes:Int)(holds:(dr→Int→Option Bool)):Option (List dr):=
 (GX p nodes).bind fun it=>
 (it (List dr) (HO (fun x s=>yF holds x s)) ([]:List dr)).bind fun xs1=>
 some xs1

def vH(p:dr)(p1:Int):Option Bool:=
 some true

def yG(p:cC)(nodes:Int):Option ((List dr)×Int):=
  (po p (0:Int) nodes).bind fun r=>
  if(r !=(0:Int))then
  (some ([],r))
  else
  ((D3 p nodes vH).bind fun r1=>
  some (r1,(0:Int)))

def AK:Option bG:=
 some (⟨[(⟨[116],[(⟨[97],(2:Int)⟩:bn),(⟨[98],(2:Int)⟩:bn)],[(0:Int)]⟩:br),(⟨[117],[(⟨[99],(2:Int)⟩:bn)],[]⟩:br)]⟩:bG)

def vQ:Option Bool:=
  (AK).bind fun r=>
  (qX (⟨[(⟨(1:Int),(-1:Int),(-1:Int),(1:Int),[(2:Int)],false,(⟨[]⟩:aT),[],[],[],[],(0:Int)⟩:M),(⟨(4:Int),(0:Int),(-1:Int),(0:Int),[],false,(⟨[]⟩:aT),[],[(⟨(1:Int),(⟨[]⟩:aT)⟩:gF)],[],[],(0:Int)⟩:M)]⟩:bK) r).bind fun r1=>
  (yG r1.1 (3:Int)).bind fun r2=>
  (if(((r1.2==(0:Int))&&(r2.2==(0:Int)))&&((r1.1.Frags.length:Int)==(2:Int)))then((cK r1.1.Frags (0:Int)).bind fun e=>
  some ((e.Nodes.length:Int)==(2:Int)))else some false).bind fun t=>
  (if t then((cK r1.1.Frags (0:Int)).bind fun e1=>
  (cK e1.Nodes (1:Int)).bind fun e2=>
  some (e2.Op==(10:Int)))else some false).bind fun t1=>
  some (t1&&((r2.1.length:Int)==(3:Int)))

def qd(p:cC)(frag:Int):Option (Int×Int):=
  (po p frag (1:Int)).bind fun r=>
  if(r !=(0:Int))then
  (some ((0:Int),r))
  else
  ((qc p frag).bind fun r1=>
  some (r1,(0:Int)))

def nP(p:cC)(frag:Int)(nodes:Int):Option ((List Int)×Int):=
  (po p frag nodes).bind fun r=>
  if(r !=(0:Int))then
  (some ([],r))
  else
  ((cK p.Frags frag).bind fun e=>
  (pn e nodes).bind fun r1=>
  some (r1,(0:Int)))

def jY:List aU→Option Bool
 |[]=>
  some false
 |e1::tl=>
  if(decide ((200:Int)<(e1.Value.S.length:Int)))then
  (some true)
  else
  ((jY tl))

def kJ(e:aT):Option Bool:=
 if(decide ((100:Int)<(e.Nodes.length:Int)))then
 (some true)
 else
 (jY e.Nodes)

def m7(nx:Option Bool):List gF→Option Bool
 |[]=>
  nx
 |e2::tl2=>
  (kJ e2.Arg).bind fun r1=>
  if r1 then
  (some true)
  else
  ((m7 nx tl2))

def m8(nx:Option Bool)(e:M):List aT→Option Bool
 |[]=>
  m7 nx e.Aggs
 |e1::tl1=>
  (kJ e1).bind fun r2=>
  if r2 then
  (some true)
  else
  ((m8 nx e tl1))

def i9:List M→Option Bool
  |[]=>
    some false
  |e::tl=>
    (if(!(((((decide ((20:Int)<(e.Kinds.length:Int)))||(decide ((20:Int)<(e.Keys.length:Int))))||(decide ((20:Int)<(e.Order.length:Int))))||(decide ((20:Int)<(e.Items.length:Int))))||(decide ((20:Int)<(e.Aggs.length:Int)))))then((kJ e.Cond).bind fun r=>
    some r)else some true).bind fun t=>
    if t then
    (some true)
    else
    (m8 (i9 tl) e e.Items)

def uD(l:(List M)):Option Bool:=
 if(decide ((65:Int)<(l.length:Int)))then
 (some true)
 else
 (i9 l)

def Ba(p:cC)(frag:Int)(nx:Int→Option Int)(i:Int):Nat→Int→Option Int
  |0,_=>none
  |n1+1,k=>
    (cK p.Frags i).bind fun e=>
    if(decide (k<(e.Nodes.length:Int)))then
    ((cK e.Nodes k).bind fun e1=>
    if((e1.Op==(9:Int))&&(e1.Table==frag))then
    (some i)
    else
    ((Ba p frag nx i n1) (IntKind.i64.wrap (k+(1:Int)))))
    else
    (nx (IntKind.i64.wrap (i+(1:Int))))

def jR(b:(List Int)):List Int→Nat→Option Bool
 |[],i=>
  some true
 |e::tl,i=>
  (cK b (i:Int)).bind fun e1=>
  if(e !=e1)then
  (some false)
  else
  ((jR b tl) (i+1))

def ia(a1:(List Int))(b:(List Int)):Option Bool:=
 if((a1.length:Int) !=(b.length:Int))then
 (some false)
 else
 (jR b a1 0)

def gH(nx:Option Bool):List bn→Option Bool
 |[]=>
  nx
 |e1::tl1=>
  if(decide ((60:Int)<(e1.Name.length:Int)))then
  (some true)
  else
  ((gH nx tl1))

def fU:List br→Option Bool
 |[]=>
  some false
 |e::tl=>
  if(((decide ((10:Int)<(e.Columns.length:Int)))||(decide ((10:Int)<(e.Keys.length:Int))))||(decide ((60:Int)<(e.Name.length:Int))))then
  (some true)
  else
  (gH (fU tl) e.Columns)

def mJ(c:bG):Option Bool:=
 if(decide ((10:Int)<(c.Tables.length:Int)))then
 (some true)
 else
 (fU c.Tables)

def ic(r3:cC×Int):List bk→Nat→(List (Int×Bool))→Option Bool
  |[],i,read=>
    some false
  |e::tl,i,read=>
    (qd r3.1 (i:Int)).bind fun r4=>
    (nP r3.1 (i:Int) (3:Int)).bind fun r5=>
    if((r4.2 !=(0:Int))||(r5.2 !=(0:Int)))then
    (some false)
    else
    (if((i:Int)==(IntKind.i64.wrap ((r3.1.Frags.length:Int)-(1:Int))))then
    ((if((r4.1==(-1:Int))&&((r5.1.length:Int)==(1:Int)))then((cK r5.1 (0:Int)).bind fun e1=>
    some (e1==(0:Int)))else some false).bind fun t1=>
    some (t1&&(decide ((read.length:Int)≤(i:Int)))))
    else
    (if((decide (r4.1≤(i:Int)))||(((r5.1.length:Int) !=(1:Int))&&((r5.1.length:Int) !=(3:Int))))then
    (some false)
    else
    ((ic r3 tl) (i+1) (dM read r4.1 true))))

def oH(l:bK)(c:bG):Option Bool:=
  (vQ).bind fun r=>
  if(!r)then
  (some false)
  else
  ((uD l.Nodes).bind fun r1=>
  (if(!r1)then((mJ c).bind fun r2=>
  some r2)else some true).bind fun t=>
  if t then
  (some true)
  else
  ((qX l c).bind fun r3=>
  if(r3.2 !=(0:Int))then
  (some ((r3.1.Frags.length:Int)==(0:Int)))
  else
  (ic r3 r3.1.Frags 0 ([]:List (Int×Bool)))))

def kH(x1:Bool):Option Int:=
 if x1 then
 (some (1:Int))
 else
 (some (-1:Int))

def ri(op:Int)(x:Bool):Option Int:=
  if x then
  (some (2:Int))
  else
  (if(op==(3:Int))then
  (kH (op==(3:Int)))
  else
  (if(op==(4:Int))then
  (kH (op==(4:Int)))
  else
  (if(op==(5:Int))then
  (kH (op==(5:Int)))
  else
  (if(op==(6:Int))then
  (kH (op==(6:Int)))
  else
  (kH (op==(8:Int)))))))

def vA(op:Int):Option Int:=
  if(op==(1:Int))then
  (some (0:Int))
  else
  (if(op==(2:Int))then
  (ri op (op==(2:Int)))
  else
  (ri op (op==(7:Int))))

def bZ:Nat→bK→Int→Option Int
  |0,_,_=>none
  |fu+1,l,at1=>
    if((decide (at1<(0:Int)))||(decide ((l.Nodes.length:Int)≤at1)))then
    (some (0:Int))
    else
    ((cK l.Nodes at1).bind fun e=>
    (vA e.Op).bind fun r=>
    if(r==(0:Int))then
    (if((e.A==(-1:Int))&&(e.B==(-1:Int)))then
    (some (1:Int))
    else
    (some (0:Int)))
    else
    (if(r==(1:Int))then
    (if((e.A==(IntKind.i64.wrap (at1-(1:Int))))&&(e.B==(-1:Int)))then
    (((bZ fu) l e.A).bind fun r1=>
    if(decide ((0:Int)<r1))then
    (some (IntKind.i64.wrap (r1+(1:Int))))
    else
    (some (0:Int)))
    else
    (some (0:Int)))
    else
    (if(r==(2:Int))then
    (if(e.B==(IntKind.i64.wrap (at1-(1:Int))))then
    (((bZ fu) l e.B).bind fun r2=>
    if((decide ((0:Int)<r2))&&(e.A==(IntKind.i64.wrap (e.B-r2))))then
    (((bZ fu) l e.A).bind fun r3=>
    if(decide ((0:Int)<r3))then
    (some (IntKind.i64.wrap ((IntKind.i64.wrap (r3+r2))+(1:Int))))
    else
    (some (0:Int)))
    else
    (some (0:Int)))
    else
    (some (0:Int)))
    else
    (some (0:Int)))))

def jr(l:bK)(at1:Int):Option Int:=
 bZ dj l at1

def qV(n:M):Option Bool:=
  if((n.Op !=(1:Int))&&((n.Table !=(0:Int))||(decide ((0:Int)<(n.Kinds.length:Int)))))then
  (some false)
  else
  (if(((n.Op !=(2:Int))&&n.Left)||(((n.Op !=(2:Int))&&(n.Op !=(3:Int)))&&(decide ((0:Int)<(n.Cond.Nodes.length:Int)))))then
  (some false)
  else
  (if(((n.Op !=(4:Int))&&((decide ((0:Int)<(n.Keys.length:Int)))||(decide ((0:Int)<(n.Aggs.length:Int)))))||((n.Op !=(5:Int))&&(decide ((0:Int)<(n.Items.length:Int)))))then
  (some false)
  else
  (some ((n.Op==(8:Int))||(((n.Order.length:Int)==(0:Int))&&(n.Limit==(0:Int)))))))

def AC(tag:Int):Option Int:=
  if((decide (tag<(1:Int)))||(decide ((23:Int)<tag)))then
  (some (-1:Int))
  else
  (if(decide (tag≤(3:Int)))then
  (some (0:Int))
  else
  (if(decide (tag≤(11:Int)))then
  (some (1:Int))
  else
  (some (2:Int))))

def vD(tag:Int):Option Int:=
  if((tag==(3:Int))||((decide ((8:Int)≤tag))&&(decide (tag≤(11:Int)))))then
  (some (-1:Int))
  else
  ((AC tag).bind fun r=>
  some r)

def nM(v:cB):Option Bool:=
  if(v.Kind==(0:Int))then
  (some (decide (v=(⟨(0:Int),(0:Int),(0:Int),[]⟩:cB))))
  else
  (if(v.Kind==(1:Int))then
  (some (((v.U==(0:Int))&&(v.S==([])))&&((v.N==(0:Int))||(v.N==(1:Int)))))
  else
  (if(v.Kind==(2:Int))then
  (some ((v.U==(0:Int))&&(v.S==([]))))
  else
  (if(v.Kind==(3:Int))then
  (some (((v.N==(0:Int))&&(v.U==(0:Int)))&&(decide ((v.S.length:Int)≤(40:Int)))))
  else
  (some ((v.Kind==(4:Int))&&(v.S==([])))))))

def vF(v:cB):Option Bool:=
 (nM v).bind fun r=>
 some (r&&(v.Kind !=(4:Int)))

def k7(n:aU):Option Bool:=
  if(n.Tag==(1:Int))then
  ((vF n.Value).bind fun r=>
  some (r&&(n.Col==(0:Int))))
  else
  (if(n.Tag==(2:Int))then
  (some (((decide (n.Value=(⟨(0:Int),(0:Int),(0:Int),[]⟩:cB)))&&(decide ((0:Int)≤n.Col)))&&(decide (n.Col<(16:Int)))))
  else
  (some ((decide (n.Value=(⟨(0:Int),(0:Int),(0:Int),[]⟩:cB)))&&(n.Col==(0:Int)))))

def hM:Nat→aT→Int→Option Int
  |0,_,_=>none
  |fu+1,e,place=>
    if((decide (place<(0:Int)))||(decide ((e.Nodes.length:Int)≤place)))then
    (some (0:Int))
    else
    ((cK e.Nodes place).bind fun e1=>
    (vD e1.Tag).bind fun r=>
    (if(!(decide (r<(0:Int))))then((k7 e1).bind fun r1=>
    some (!r1))else some true).bind fun t=>
    if t then
    (some (0:Int))
    else
    (if(r==(0:Int))then
    (if((e1.L !=(-1:Int))||(e1.R !=(-1:Int)))then
    (some (0:Int))
    else
    (some (1:Int)))
    else
    (((hM fu) e (IntKind.i64.wrap (place-(1:Int)))).bind fun r2=>
    if(r2==(0:Int))then
    (some (0:Int))
    else
    (if(r==(1:Int))then
    (if((e1.L !=(IntKind.i64.wrap (place-(1:Int))))||(e1.R !=(-1:Int)))then
    (some (0:Int))
    else
    (some (IntKind.i64.wrap (r2+(1:Int)))))
    else
    (((hM fu) e (IntKind.i64.wrap ((IntKind.i64.wrap (place-(1:Int)))-r2))).bind fun r3=>
    if(((r3==(0:Int))||(e1.R !=(IntKind.i64.wrap (place-(1:Int)))))||(e1.L !=(IntKind.i64.wrap ((IntKind.i64.wrap (place-(1:Int)))-r2))))then
    (some (0:Int))
    else
    (some (IntKind.i64.wrap ((IntKind.i64.wrap (r3+r2))+(1:Int)))))))))

def uo(e:aT)(place:Int):Option Int:=
 hM dj e place

def vC(e:aT):Option Bool:=
  (if((decide ((1:Int)≤(e.Nodes.length:Int)))&&(decide ((e.Nodes.length:Int)≤(1000:Int))))then((uo e (IntKind.i64.wrap ((e.Nodes.length:Int)-(1:Int)))).bind fun r=>
  some (r==(e.Nodes.length:Int)))else some false).bind fun t=>
  some t

def pj(k:Int)(want:Int):Option Bool:=
 some ((k==want)||(k==(0:Int)))

def rj(tag:Int)(l:Int)(r:Int):Option (Int×Bool):=
  if((tag==(4:Int))||((decide ((12:Int)≤tag))&&(decide (tag≤(15:Int)))))then
  ((pj l (2:Int)).bind fun r1=>
  (if r1 then((pj r (2:Int)).bind fun r2=>
  some r2)else some false).bind fun t=>
  some ((2:Int),t))
  else
  (if((tag==(5:Int))||(decide ((22:Int)≤tag)))then
  ((pj l (1:Int)).bind fun r3=>
  (if r3 then((pj r (1:Int)).bind fun r4=>
  some r4)else some false).bind fun t1=>
  some ((1:Int),t1))
  else
  (if((tag==(6:Int))||(tag==(7:Int)))then
  (some ((1:Int),true))
  else
  (some ((1:Int),(((l==r)||(l==(0:Int)))||(r==(0:Int)))))))

def pN(nx2:(List Int)→Option (Int×Int))(e3:aU)(own:List Int)(e6:Int)(r1:Int):Option (Int×Int):=
  (rj e3.Tag e6 r1).bind fun r2=>
  if(!r2.2)then
  (some ((0:Int),(201:Int)))
  else
  ((iC own ([r2.1])).bind fun own3=>
  nx2 own3)

def cW(kinds:(List Int)):List aU→(List Int)→Option (Int×Int)
  |[],own=>
    (cK own (IntKind.i64.wrap ((own.length:Int)-(1:Int)))).bind fun e4=>
    some (e4,(0:Int))
  |e3::tl2,own=>
    if(e3.Tag==(1:Int))then
    ((iC own ([e3.Value.Kind])).bind fun own1=>
    (cW kinds tl2) own1)
    else
    (if(e3.Tag==(2:Int))then
    ((cK kinds e3.Col).bind fun e5=>
    (iC own ([e5])).bind fun own2=>
    (cW kinds tl2) own2)
    else
    ((cK own e3.L).bind fun e6=>
    if(decide ((0:Int)≤e3.R))then
    ((cK own e3.R).bind fun e7=>
    pN (cW kinds tl2) e3 own e6 e7)
    else
    (pN (cW kinds tl2) e3 own e6 (0:Int))))

def mX(e:aT)(kinds:(List Int)):List aU→Option (Int×Int)
 |[]=>
  cW kinds e.Nodes ([]:List Int)
 |e2::tl1=>
  if((e2.Tag==(2:Int))&&(decide ((kinds.length:Int)≤e2.Col)))then
  (some ((0:Int),(2:Int)))
  else
  ((mX e kinds tl1))

def pM(e:aT)(kinds:(List Int)):List Int→Option (Int×Int)
 |[]=>
  mX e kinds e.Nodes
 |e1::tl=>
  if((decide (e1<(0:Int)))||(decide ((3:Int)<e1)))then
  (some ((0:Int),(2:Int)))
  else
  ((pM e kinds tl))

def rl(e:aT)(kinds:(List Int)):Option (Int×Int):=
 (vC e).bind fun r=>
 if(!r)then
 (some ((0:Int),(200:Int)))
 else
 (pM e kinds kinds)

def sl(e:aT)(kinds:(List Int)):Option Bool:=
 (rl e kinds).bind fun r=>
 some ((r.2==(0:Int))&&((r.1==(0:Int))||(r.1==(1:Int))))

def lB(a1:gF)(kinds:(List Int)):Option (Int×Bool):=
  if(a1.Tag==(1:Int))then
  (some ((2:Int),((a1.Arg.Nodes.length:Int)==(0:Int))))
  else
  ((rl a1.Arg kinds).bind fun r=>
  if(((decide (a1.Tag<(1:Int)))||(decide ((5:Int)<a1.Tag)))||(r.2 !=(0:Int)))then
  (some ((0:Int),false))
  else
  (if(((a1.Tag==(3:Int))&&(r.1 !=(2:Int)))&&(r.1 !=(0:Int)))then
  (some ((0:Int),false))
  else
  (if(decide ((4:Int)≤a1.Tag))then
  (some (r.1,true))
  else
  (some ((2:Int),true)))))

def eZ(n:M):Nat→Bool→Int→Option ((List Int)×Bool)
  |0,_,_=>none
  |n1+1,ok,i=>
    if(decide (i<(n.Kinds.length:Int)))then
    ((if ok then((cK n.Kinds i).bind fun e=>
    some (decide ((1:Int)≤e)))else some false).bind fun t=>
    (if t then((cK n.Kinds i).bind fun e1=>
    some (decide (e1≤(3:Int))))else some false).bind fun t1=>
    (eZ n n1) t1 (IntKind.i64.wrap (i+(1:Int))))
    else
    (some (n.Kinds,((((ok&&(decide ((0:Int)≤n.Table)))&&(decide (n.Table≤(3:Int))))&&(decide ((1:Int)≤(n.Kinds.length:Int))))&&(decide ((n.Kinds.length:Int)≤(4:Int))))))

def cY(n:M)(a1:(List Int)):Nat→(List Int)→Bool→Int→Option ((List Int)×Bool)
  |0,_,_,_=>none
  |n3+1,out3,ok1,i2=>
    if(decide (i2<(n.Aggs.length:Int)))then
    ((cK n.Aggs i2).bind fun e4=>
    (lB e4 a1).bind fun r2=>
    (iC out3 ([r2.1])).bind fun out4=>
    (cY n a1 n3) out4 (ok1&&r2.2) (IntKind.i64.wrap (i2+(1:Int))))
    else
    (some (out3,(((ok1&&(decide ((n.Keys.length:Int)≤(3:Int))))&&(decide ((n.Aggs.length:Int)≤(12:Int))))&&(decide ((0:Int)<(out3.length:Int))))))

def dp(n:M)(a1:(List Int)):Nat→(List Int)→Int→Option ((List Int)×Bool)
  |0,_,_=>none
  |n2+1,cx,i1=>
    if(decide (i1<(n.Keys.length:Int)))then
    ((cK n.Keys i1).bind fun e2=>
    if((decide (e2<(0:Int)))||(decide ((a1.length:Int)≤e2)))then
    (some ([],false))
    else
    ((cK a1 e2).bind fun e3=>
    (iC cx ([e3])).bind fun s9=>
    (dp n a1 n2) s9 (IntKind.i64.wrap (i1+(1:Int)))))
    else
    (cY n a1 dj cx true (0:Int))

def ez(n:M)(a1:(List Int)):Nat→(List Int)→Bool→Int→Option ((List Int)×Bool)
  |0,_,_,_=>none
  |n4+1,out5,ok2,i3=>
    if(decide (i3<(n.Items.length:Int)))then
    ((cK n.Items i3).bind fun e5=>
    (rl e5 a1).bind fun r3=>
    (iC out5 ([r3.1])).bind fun out6=>
    (ez n a1 n4) out6 (ok2&&(r3.2==(0:Int))) (IntKind.i64.wrap (i3+(1:Int))))
    else
    (some (out5,((ok2&&(decide ((1:Int)≤(out5.length:Int))))&&(decide ((out5.length:Int)≤(16:Int))))))

def ot(b:(List Int))(nx4:Nat→(List Int)→Bool→Option ((List Int)×Bool))(i4:Nat)(out7:List Int)(ok3:Bool)(k:Int):Option ((List Int)×Bool):=
  (iC out7 ([k])).bind fun out8=>
  (if ok3 then((cK b (i4:Int)).bind fun e7=>
  (if(!(e7==k))then((cK b (i4:Int)).bind fun e8=>
  some (e8==(0:Int)))else some true).bind fun t3=>
  some t3)else some false).bind fun t2=>
  nx4 (i4+1) out8 t2

def jq(b:(List Int)):List Int→Nat→(List Int)→Bool→Option ((List Int)×Bool)
  |[],i4,out7,ok3=>
    some (out7,ok3)
  |e6::tl,i4,out7,ok3=>
    if(e6==(0:Int))then
    ((cK b (i4:Int)).bind fun e9=>
    ot b (jq b tl) i4 out7 ok3 e9)
    else
    (ot b (jq b tl) i4 out7 ok3 e6)

def eY(n:M)(a1:(List Int)):Nat→Bool→Int→Option ((List Int)×Bool)
  |0,_,_=>none
  |n5+1,ok4,i5=>
    if(decide (i5<(n.Order.length:Int)))then
    ((if ok4 then((cK n.Order i5).bind fun e10=>
    some (decide ((0:Int)≤e10.Col)))else some false).bind fun t4=>
    (if t4 then((cK n.Order i5).bind fun e11=>
    some (decide (e11.Col<(a1.length:Int))))else some false).bind fun t5=>
    (eY n a1 n5) t5 (IntKind.i64.wrap (i5+(1:Int))))
    else
    (some (a1,(((ok4&&(decide ((n.Order.length:Int)≤(3:Int))))&&(decide ((-1:Int)≤n.Limit)))&&(decide (n.Limit≤(2147483647:Int))))))

def bM(n:M)(a1:(List Int))(b:(List Int)):Option ((List Int)×Bool):=
  if(n.Op==(1:Int))then
  (eZ n dj true (0:Int))
  else
  (if(n.Op==(2:Int))then
  ((iC ([]:List Int) a1).bind fun l=>
  (iC l b).bind fun out=>
  (sl n.Cond out).bind fun r=>
  some (out,r))
  else
  (if(n.Op==(3:Int))then
  ((sl n.Cond a1).bind fun r1=>
  some (a1,r1))
  else
  (if(n.Op==(4:Int))then
  (dp n a1 dj ([]:List Int) (0:Int))
  else
  (if(n.Op==(5:Int))then
  (ez n a1 dj ([]:List Int) true (0:Int))
  else
  (if(n.Op==(6:Int))then
  (some (a1,true))
  else
  (if(n.Op==(7:Int))then
  (if((a1.length:Int) !=(b.length:Int))then
  (some ([],false))
  else
  (jq b a1 0 ([]:List Int) true))
  else
  (eY n a1 dj true (0:Int))))))))

def gc(l:bK)(at1:Int)(e1:M)(a1:(List Int))(b1:(List Int)):Option ((List Int)×Bool):=
 (bM e1 a1 b1).bind fun r2=>
 if(((e1.Op==(8:Int))&&(at1 !=(IntKind.i64.wrap ((l.Nodes.length:Int)-(1:Int)))))||(decide ((16:Int)<(r2.1.length:Int))))then
 (some ([],false))
 else
 (some (r2.1,r2.2))

def dX(self__:bK→Int→Option ((List Int)×Bool))(l:bK)(at1:Int)(e1:M)(a1:(List Int)):Option ((List Int)×Bool):=
  if(decide ((0:Int)≤e1.B))then
  ((self__ l e1.B).bind fun r3=>
  if(!r3.2)then
  (some ([],false))
  else
  (gc l at1 e1 a1 r3.1))
  else
  (gc l at1 e1 a1 ([]))

def co:Nat→bK→Int→Option ((List Int)×Bool)
  |0,_,_=>none
  |fu+1,l,at1=>
    (jr l at1).bind fun r=>
    (if(!(r==(0:Int)))then((cK l.Nodes at1).bind fun e=>
    (qV e).bind fun r1=>
    some (!r1))else some true).bind fun t=>
    if t then
    (some ([],false))
    else
    ((cK l.Nodes at1).bind fun e1=>
    if(decide ((0:Int)≤e1.A))then
    (((co fu) l e1.A).bind fun r4=>
    if(!r4.2)then
    (some ([],false))
    else
    (dX (co fu) l at1 e1 r4.1))
    else
    (dX (co fu) l at1 e1 ([])))

def kX(l:bK)(at1:Int):Option ((List Int)×Bool):=
 co dj l at1

def eC(l:bK):List M→Nat→Option Int
 |[],i=>
  (jr l (IntKind.i64.wrap ((l.Nodes.length:Int)-(1:Int)))).bind fun r=>
  if(r !=(l.Nodes.length:Int))then
  (some (IntKind.i64.wrap ((l.Nodes.length:Int)-(1:Int))))
  else
  (some (-1:Int))
 |e::tl,i=>
  (kX l (i:Int)).bind fun r1=>
  if(!r1.2)then
  (some (i:Int))
  else
  ((eC l tl) (i+1))

def qb(l:bK):Option Int:=
 if((decide ((l.Nodes.length:Int)<(1:Int)))||(decide ((60:Int)<(l.Nodes.length:Int))))then
 (some (0:Int))
 else
 (eC l l.Nodes 0)

def vz(l:bK):Option Bool:=
 (qb l).bind fun r=>
 some (decide (r<(0:Int)))

def sm(c:Int):Option Bool:=
 some ((decide ((97:Int)≤c))&&(decide (c≤(122:Int))))

def qK(s:gV):List gV→Option Bool
 |[]=>
  some false
 |e::tl=>
  if(e==s)then
  (some true)
  else
  ((qK s tl))

def DZ(l:(List gV))(s:gV):Option Bool:=
 qK s l

def AE:Option (List gV):=
 some ([[83,69,76,69,67,84],[68,73,83,84,73,78,67,84],[70,82,79,77],[76,69,70,84],[74,79,73,78],[79,78],[87,72,69,82,69],[71,82,79,85,80],[66,89],[72,65,86,73,78,71],[85,78,73,79,78],[65,76,76],[79,82,68,69,82],[76,73,77,73,84],[65,83,67],[68,69,83,67],[65,83],[65,78,68],[79,82],[78,79,84],[73,83],[78,85,76,76],[84,82,85,69],[70,65,76,83,69],[67,79,85,78,84],[83,85,77],[77,73,78],[77,65,88]])

def ut(s:gV):Option Bool:=
 (AE).bind fun r=>
 (DZ r s).bind fun r1=>
 some r1

def oy(nx:(List Int)→Int→Option gV)(out:List Int)(i:Int)(c1:Int):Option gV:=
 (iC out ([c1])).bind fun cx=>
 nx cx (IntKind.i64.wrap (i+(1:Int)))

def mi(s:gV):Nat→(List Int)→Int→Option gV
  |0,_,_=>none
  |n+1,out,i=>
    if(decide (i<(s.length:Int)))then
    ((yV s i).bind fun b=>
    (sm b).bind fun r=>
    if r then
    (oy (mi s n) out i (IntKind.u8.wrap ((IntKind.u8.wrap (b-(97:Int)))+(65:Int))))
    else
    (oy (mi s n) out i b))
    else
    (some (wX out))

def vE(s:gV):Option gV:=
 mi s dj ([]:List Int) (0:Int)

def AD(c:Int):Option Bool:=
 some ((decide ((48:Int)≤c))&&(decide (c≤(57:Int))))

def nf(s:gV):Nat→Int→Option Bool
  |0,_=>none
  |n+1,i=>
    if(decide (i<(s.length:Int)))then
    ((yV s i).bind fun b1=>
    (sm b1).bind fun r3=>
    (if(!r3)then((yV s i).bind fun b2=>
    (AD b2).bind fun r4=>
    some (!r4))else some false).bind fun t2=>
    (if t2 then((yV s i).bind fun b3=>
    some (b3 !=(95:Int)))else some false).bind fun t3=>
    if t3 then
    (some false)
    else
    ((nf s n) (IntKind.i64.wrap (i+(1:Int)))))
    else
    (some true)

def qL(s:gV):Option Bool:=
  (if(!((decide ((s.length:Int)<(1:Int)))||(decide ((16:Int)<(s.length:Int)))))then((yV s (0:Int)).bind fun b=>
  (sm b).bind fun r=>
  some (!r))else some true).bind fun t=>
  (if(!t)then((vE s).bind fun r1=>
  (ut r1).bind fun r2=>
  some r2)else some true).bind fun t1=>
  if t1 then
  (some false)
  else
  (nf s dj (0:Int))

def xD(kind:Int):Option gV:=
  if(kind==(1:Int))then
  (some ([98,111,111,108]))
  else
  (if(kind==(2:Int))then
  (some ([105,110,116]))
  else
  (if(kind==(3:Int))then
  (some ([116,101,120,116]))
  else
  (some ([]))))

def kw(t:br)(nx:Int→Option Bool)(i:Int)(e:bn):Nat→Int→Option Bool
  |0,_=>none
  |n1+1,k=>
    if(decide (k<i))then
    ((cK t.Columns k).bind fun e1=>
    if(e1.Name==e.Name)then
    (some false)
    else
    ((kw t nx i e n1) (IntKind.i64.wrap (k+(1:Int)))))
    else
    (nx (IntKind.i64.wrap (i+(1:Int))))

def ku(t:br):Nat→Int→Option Bool
  |0,_=>none
  |n2+1,i1=>
    if(decide (i1<(t.Keys.length:Int)))then
    ((cK t.Keys i1).bind fun e2=>
    (if(!((decide (e2<(0:Int)))||(decide ((t.Columns.length:Int)≤e2))))then((if(decide ((0:Int)<i1))then((cK t.Keys (IntKind.i64.wrap (i1-(1:Int)))).bind fun e3=>
    some (decide (e2≤e3)))else some false).bind fun t3=>
    some t3)else some true).bind fun t2=>
    if t2 then
    (some false)
    else
    ((ku t n2) (IntKind.i64.wrap (i1+(1:Int)))))
    else
    (some true)

def kx(t:br):Nat→Int→Option Bool
  |0,_=>none
  |n+1,i=>
    if(decide (i<(t.Columns.length:Int)))then
    ((cK t.Columns i).bind fun e=>
    (qL e.Name).bind fun r1=>
    (if(!(!r1))then((xD e.Kind).bind fun r2=>
    some (r2==([])))else some true).bind fun t1=>
    if t1 then
    (some false)
    else
    (kw t (kx t n) i e dj (0:Int)))
    else
    (ku t dj (0:Int))

def pi(t:br):Option Bool:=
 (qL t.Name).bind fun r=>
 if(((!r)||(decide ((t.Columns.length:Int)<(1:Int))))||(decide ((4:Int)<(t.Columns.length:Int))))then
 (some false)
 else
 (kx t dj (0:Int))

def ov(c:bG)(nx:Int→Option Bool)(i:Int)(e:br):Nat→Int→Option Bool
  |0,_=>none
  |n1+1,k=>
    if(decide (k<i))then
    ((cK c.Tables k).bind fun e1=>
    if(e1.Name==e.Name)then
    (some false)
    else
    ((ov c nx i e n1) (IntKind.i64.wrap (k+(1:Int)))))
    else
    (nx (IntKind.i64.wrap (i+(1:Int))))

def ow(c:bG):Nat→Int→Option Bool
  |0,_=>none
  |n+1,i=>
    if(decide (i<(c.Tables.length:Int)))then
    ((cK c.Tables i).bind fun e=>
    (pi e).bind fun r=>
    if(!r)then
    (some false)
    else
    (ov c (ow c n) i e dj (0:Int)))
    else
    (some true)

def vB(c:bG):Option Bool:=
 if(decide ((4:Int)<(c.Tables.length:Int)))then
 (some false)
 else
 (ow c dj (0:Int))

def oq(nx:Int→Option Bool)(i:Int):Option Bool:=
 nx (IntKind.i64.wrap (i+(1:Int)))

def mg(c:bG)(nx:Int→Option Bool)(i:Int)(e:M):Nat→Int→Option Bool
  |0,_=>none
  |n1+1,k=>
    if(decide (k<(e.Kinds.length:Int)))then
    ((cK c.Tables e.Table).bind fun e2=>
    (cK e2.Columns k).bind fun e3=>
    (cK e.Kinds k).bind fun e4=>
    if(e3.Kind !=e4)then
    (some false)
    else
    ((mg c nx i e n1) (IntKind.i64.wrap (k+(1:Int)))))
    else
    (oq nx i)

def jp(l:bK)(c:bG):Nat→Int→Option Bool
  |0,_=>none
  |n+1,i=>
    if(decide (i<(l.Nodes.length:Int)))then
    ((cK l.Nodes i).bind fun e=>
    if(e.Op !=(1:Int))then
    (oq (jp l c n) i)
    else
    ((if(!(decide ((c.Tables.length:Int)≤e.Table)))then((cK c.Tables e.Table).bind fun e1=>
    some ((e1.Columns.length:Int) !=(e.Kinds.length:Int)))else some true).bind fun t=>
    if t then
    (some false)
    else
    (mg c (jp l c n) i e dj (0:Int))))
    else
    (some true)

def AB(l:bK)(c:bG):Option Bool:=
 jp l c dj (0:Int)

def pI(s:bS)(way:Int)(cols:(List Int))(f:bk):Option bS:=
 (iC ([]:List bk) s.Frags).bind fun l=>
 (iC l ([f])).bind fun l1=>
 some (bS.mk l1 ([(⟨(9:Int),(-1:Int),(-1:Int),(IntKind.i64.wrap ((l1.length:Int)-(1:Int))),s.Kinds,false,(⟨[]⟩:aT),[],[],[],[],(0:Int)⟩:M)]) s.Kinds (way==(3:Int)) cols)

def gC(s:bS)(way:Int)(cols:(List Int)):Option bS:=
 if s.One then
 (pI s way cols (bk.mk (⟨s.Nodes,(1:Int),way,cols⟩:bk).Nodes (2:Int) (⟨s.Nodes,(1:Int),way,cols⟩:bk).Way (⟨s.Nodes,(1:Int),way,cols⟩:bk).Cols))
 else
 (pI s way cols (⟨s.Nodes,(1:Int),way,cols⟩:bk))

def dC(s:bS):Option bS:=
  if s.One then
  (some s)
  else
  ((gC s (3:Int) ([])).bind fun r=>
  some r)

def ol(n:Int):List Int→Nat→Option Int
 |[],i=>
  some (-1:Int)
 |e::tl,i=>
  if(e==n)then
  (some (i:Int))
  else
  ((ol n tl) (i+1))

def AA(l:(List Int))(n:Int):Option Int:=
 ol n l 0

def ne(of:(List Int))(l:(List Int)):List Int→(List Int)→Option ((List Int)×Bool)
  |[],out=>
    some (out,decide ((0:Int)<(of.length:Int)))
  |e::tl,out=>
    (AA l e).bind fun r=>
    if(decide (r<(0:Int)))then
    (some ([],false))
    else
    ((iC out ([r])).bind fun cx=>
    (ne of l tl) cx)

def hJ(of:(List Int))(l:(List Int)):Option ((List Int)×Bool):=
 ne of l of ([]:List Int)

def sY(n2:M):Option M:=
 some n2

def sZ(by1:Int)(n1:M):Option M:=
 if(decide ((0:Int)≤n1.B))then
 (sY (M.mk n1.Op n1.A (IntKind.i64.wrap (n1.B+by1)) n1.Table n1.Kinds n1.Left n1.Cond n1.Keys n1.Aggs n1.Items n1.Order n1.Limit))
 else
 (sY n1)

def xC(n:M)(by1:Int):Option M:=
 if(decide ((0:Int)≤n.A))then
 (sZ by1 (M.mk n.Op (IntKind.i64.wrap (n.A+by1)) n.B n.Table n.Kinds n.Left n.Cond n.Keys n.Aggs n.Items n.Order n.Limit))
 else
 (sZ by1 n)

def mW(n:M)(kinds:(List Int))(a1:bS)(b:bS):Nat→(List M)→Int→Option bS
  |0,_,_=>none
  |n1+1,cx,i=>
    if(decide (i<(b.Nodes.length:Int)))then
    ((cK b.Nodes i).bind fun e=>
    (xC e (a1.Nodes.length:Int)).bind fun r=>
    (iC cx ([r])).bind fun s9=>
    (mW n kinds a1 b n1) s9 (IntKind.i64.wrap (i+(1:Int))))
    else
    ((iC cx ([(M.mk n.Op (IntKind.i64.wrap ((a1.Nodes.length:Int)-(1:Int))) (IntKind.i64.wrap ((cx.length:Int)-(1:Int))) n.Table n.Kinds n.Left n.Cond n.Keys n.Aggs n.Items n.Order n.Limit)])).bind fun l4=>
    some (⟨b.Frags,l4,kinds,a1.One,[]⟩:bS))

def ph(n:M)(kinds:(List Int))(a1:bS)(b:bS):Option bS:=
 (iC ([]:List M) a1.Nodes).bind fun out=>
 mW n kinds a1 b dj out (0:Int)

def pK(nx:aT→Option aT)(out:aT)(n1:aU):Option aT:=
 (iC out.Nodes ([n1])).bind fun l1=>
 nx ({out with Nodes:=l1}:aT)

def pL(place:Int)(r:Int)(nx:aT→Option aT)(out:aT)(n:aU):Option aT:=
 if(decide ((0:Int)≤n.R))then
 (pK nx out (aU.mk n.Tag n.L (IntKind.i64.wrap (n.R-(IntKind.i64.wrap ((IntKind.i64.wrap (place+(1:Int)))-r)))) n.Col n.Value))
 else
 (pK nx out n)

def iZ(place:Int)(r:Int):List aU→aT→Option aT
 |[],out=>
  some out
 |e1::tl,out=>
  if(decide ((0:Int)≤e1.L))then
  (pL place r (iZ place r tl) out (aU.mk e1.Tag (IntKind.i64.wrap (e1.L-(IntKind.i64.wrap ((IntKind.i64.wrap (place+(1:Int)))-r)))) e1.R e1.Col e1.Value))
  else
  (pL place r (iZ place r tl) out e1)

def uq(e:aT)(place:Int):Option aT:=
 (uo e place).bind fun r=>
 (d6 e.Nodes (IntKind.i64.wrap ((IntKind.i64.wrap (place+(1:Int)))-r)) (IntKind.i64.wrap (place+(1:Int)))).bind fun y=>
 iZ place r y ({(⟨[]⟩:aT)with Nodes:=([]:List aU)}:aT)

def la:Nat→aT→Option (List aT)
  |0,_=>none
  |fu+1,e=>
    (cK e.Nodes (IntKind.i64.wrap ((e.Nodes.length:Int)-(1:Int)))).bind fun e1=>
    if(e1.Tag !=(22:Int))then
    (some ([e]))
    else
    ((uq e e1.L).bind fun r=>
    ((la fu) r).bind fun r1=>
    (uq e e1.R).bind fun r2=>
    ((la fu) r2).bind fun r3=>
    (iC r1 r3).bind fun x=>
    some x)

def xE(e:aT):Option (List aT):=
 la dj e

def s0(left:Int)(a1:Int)(b:Int):Option (Int×Int×Bool):=
 if((decide (left≤a1))||(decide (b<left)))then
 (some ((0:Int),(0:Int),false))
 else
 (some (a1,(IntKind.i64.wrap (b-left)),true))

def ur(e:aT)(left:Int):Option (Int×Int×Bool):=
  (if(!((e.Nodes.length:Int) !=(3:Int)))then((cK e.Nodes (2:Int)).bind fun e1=>
  some (e1.Tag !=(16:Int)))else some true).bind fun t=>
  (if(!t)then((cK e.Nodes (0:Int)).bind fun e2=>
  some (e2.Tag !=(2:Int)))else some true).bind fun t1=>
  (if(!t1)then((cK e.Nodes (1:Int)).bind fun e3=>
  some (e3.Tag !=(2:Int)))else some true).bind fun t2=>
  if t2 then
  (some ((0:Int),(0:Int),false))
  else
  ((cK e.Nodes (0:Int)).bind fun e4=>
  (cK e.Nodes (1:Int)).bind fun e5=>
  if(decide (left≤e4.Col))then
  (s0 left e5.Col e4.Col)
  else
  (s0 left e4.Col e5.Col))

def pJ:List aU→Option Bool
 |[]=>
  some true
 |e1::tl=>
  if((e1.Tag==(4:Int))||((decide ((12:Int)≤e1.Tag))&&(decide (e1.Tag≤(15:Int)))))then
  (some false)
  else
  ((pJ tl))

def rk(e:aT):Option Bool:=
 pJ e.Nodes

def om(nx:(List Int)→(List Int)→Option ((List Int)×(List Int)))(e:aT)(r1:Int×Int×Bool)(a2:List Int)(b1:List Int):Option ((List Int)×(List Int)):=
  (if(!r1.2.2)then((rk e).bind fun r2=>
  some (!r2))else some false).bind fun t=>
  if t then
  (some ([],[]))
  else
  (nx a2 b1)

def jn(left:Int):List aT→(List Int)→(List Int)→Option ((List Int)×(List Int))
  |[],a1,b=>
    some (a1,b)
  |e::tl,a1,b=>
    (ur e left).bind fun r1=>
    if(r1.2.2&&(decide ((a1.length:Int)<(16:Int))))then
    ((iC a1 ([r1.1])).bind fun a3=>
    (iC b ([r1.2.1])).bind fun b2=>
    om (jn left tl) e r1 a3 b2)
    else
    (om (jn left tl) e r1 a1 b)

def sk(cond:aT)(left:Int):Option ((List Int)×(List Int)):=
 (xE cond).bind fun r=>
 jn left r ([]:List Int) ([]:List Int)

def qa(l:(List Int)):List Int→(List Int)→Option (List Int)
 |[],out=>
  some out
 |e::tl,out=>
  (cK l e).bind fun e1=>
  (iC out ([e1])).bind fun cx=>
  (qa l tl) cx

def tG(l:(List Int))(places:(List Int)):Option (List Int):=
 qa l places ([]:List Int)

def pH(n:M)(kinds:(List Int))(a2:bS)(b4:bS):Option bS:=
 (dC b4).bind fun r=>
 (ph n kinds a2 r).bind fun r1=>
 some (bS.mk r1.Frags r1.Nodes r1.Kinds true r1.Hashed)

def lK(n:M)(kinds:(List Int))(a3:bS)(b5:bS):Option bS:=
 (ph n kinds a3 b5).bind fun r6=>
 some (bS.mk r6.Frags r6.Nodes r6.Kinds r6.One a3.Hashed)

def xA(n:M)(kinds:(List Int))(a1:bS)(b:bS):Option bS:=
  if(a1.One||b.One)then
  (if(!a1.One)then
  ((dC (bS.mk b.Frags a1.Nodes a1.Kinds a1.One a1.Hashed)).bind fun r2=>
  pH n kinds r2 (bS.mk r2.Frags b.Nodes b.Kinds b.One b.Hashed))
  else
  (pH n kinds a1 b))
  else
  ((sk n.Cond (a1.Kinds.length:Int)).bind fun r3=>
  if((r3.1.length:Int)==(0:Int))then
  ((gC b (2:Int) ([])).bind fun r4=>
  (ph n kinds a1 r4).bind fun r5=>
  some (bS.mk r5.Frags r5.Nodes r5.Kinds r5.One a1.Hashed))
  else
  ((hJ a1.Hashed r3.1).bind fun r7=>
  if r7.2 then
  ((tG r3.2 r7.1).bind fun r8=>
  (ia b.Hashed r8).bind fun r9=>
  if(!r9)then
  ((tG r3.2 r7.1).bind fun r10=>
  (gC b (1:Int) r10).bind fun r11=>
  lK n kinds a1 r11)
  else
  (lK n kinds a1 b))
  else
  ((hJ b.Hashed r3.2).bind fun r12=>
  if r12.2 then
  ((tG r3.1 r12.1).bind fun r13=>
  (gC (bS.mk b.Frags a1.Nodes a1.Kinds a1.One a1.Hashed) (1:Int) r13).bind fun r14=>
  lK n kinds r14 (bS.mk r14.Frags b.Nodes b.Kinds b.One b.Hashed))
  else
  ((gC (bS.mk b.Frags a1.Nodes a1.Kinds a1.One a1.Hashed) (1:Int) r3.1).bind fun r15=>
  (gC (bS.mk r15.Frags b.Nodes b.Kinds b.One b.Hashed) (1:Int) r3.2).bind fun r16=>
  lK n kinds r15 r16))))

def eX(n:M)(kinds:(List Int))(s:bS):Option bS:=
 (iC ([]:List M) s.Nodes).bind fun l=>
 (iC l ([(M.mk n.Op (IntKind.i64.wrap ((s.Nodes.length:Int)-(1:Int))) (-1:Int) n.Table n.Kinds n.Left n.Cond n.Keys n.Aggs n.Items n.Order n.Limit)])).bind fun l1=>
 some (bS.mk s.Frags l1 kinds s.One s.Hashed)

def mf(n:Int):Nat→(List Int)→Int→Option (List Int)
  |0,_,_=>none
  |n1+1,out,i=>
    if(decide (i<n))then
    ((iC out ([i])).bind fun cx=>
    (mf n n1) cx (IntKind.i64.wrap (i+(1:Int))))
    else
    (some out)

def p9(n:Int):Option (List Int):=
 mf n dj ([]:List Int) (0:Int)

def hZ(n:M)(kinds:(List Int))(s:bS)(under:List Int)(last:M)(way:Int):Option bS:=
 (eX (M.mk (10:Int) n.A n.B n.Table n.Kinds n.Left n.Cond n.Keys n.Aggs n.Items n.Order n.Limit) under s).bind fun r4=>
 (p9 (n.Keys.length:Int)).bind fun r5=>
 (gC r4 way r5).bind fun r6=>
 (eX last kinds r6).bind fun r7=>
 some r7

def jo(n:M)(kinds:(List Int))(s:bS)(under:List Int):Nat→Int→M→Option bS
  |0,_,_=>none
  |n1+1,i1,last=>
    if(decide (i1<(n.Aggs.length:Int)))then
    ((cK n.Aggs i1).bind fun e1=>
    (iC last.Aggs ([(⟨e1.Tag,(⟨[]⟩:aT)⟩:gF)])).bind fun l3=>
    (jo n kinds s under n1) (IntKind.i64.wrap (i1+(1:Int))) ({last with Aggs:=l3}:M))
    else
    (if((n.Keys.length:Int)==(0:Int))then
    (hZ n kinds s under last (3:Int))
    else
    (hZ n kinds s under last (1:Int)))

def oo(nx:Nat→(List Int)→Option bS)(i:Nat)(under:List Int)(k:Int):Option bS:=
 (iC under ([k])).bind fun under1=>
 nx (i+1) under1

def gB(n:M)(kinds:(List Int))(s:bS):List Int→Nat→(List Int)→Option bS
  |[],i,under=>
    (p9 (n.Keys.length:Int)).bind fun r3=>
    jo n kinds s under dj (0:Int) ({(⟨(11:Int),(0:Int),(0:Int),(0:Int),[],false,(⟨[]⟩:aT),r3,[],[],[],(0:Int)⟩:M)with Aggs:=([]:List gF)}:M)
  |e::tl,i,under=>
    (if(decide ((n.Keys.length:Int)≤(i:Int)))then((cK n.Aggs (IntKind.i64.wrap ((i:Int)-(n.Keys.length:Int)))).bind fun e2=>
    some (e2.Tag==(3:Int)))else some false).bind fun t=>
    if t then
    (oo (gB n kinds s tl) i under (4:Int))
    else
    (oo (gB n kinds s tl) i under e)

def vy(n:M)(kinds:(List Int))(s:bS):Option bS:=
  if s.One then
  ((eX n kinds s).bind fun r=>
  some (bS.mk r.Frags r.Nodes r.Kinds r.One ([])))
  else
  ((hJ s.Hashed n.Keys).bind fun r1=>
  if r1.2 then
  ((eX n kinds s).bind fun r2=>
  some (bS.mk r2.Frags r2.Nodes r2.Kinds r2.One r1.1))
  else
  (gB n kinds s kinds 0 ([]:List Int)))

def lJ(nx:(List Int)→Int→Option bS)(bare:List Int)(i:Int)(k:Int):Option bS:=
 (iC bare ([k])).bind fun bare1=>
 nx bare1 (IntKind.i64.wrap (i+(1:Int)))

def gy(n:M)(kinds:(List Int))(a1:bS):Nat→(List Int)→Int→Option bS
  |0,_,_=>none
  |n1+1,bare,i=>
    if(decide (i<(n.Items.length:Int)))then
    ((cK n.Items i).bind fun e1=>
    (if((e1.Nodes.length:Int)==(1:Int))then((cK e1.Nodes (0:Int)).bind fun e2=>
    some (e2.Tag==(2:Int)))else some false).bind fun t=>
    if t then
    ((cK e1.Nodes (0:Int)).bind fun e3=>
    lJ (gy n kinds a1 n1) bare i e3.Col)
    else
    (lJ (gy n kinds a1 n1) bare i (-1:Int)))
    else
    ((eX n kinds a1).bind fun r3=>
    (hJ a1.Hashed bare).bind fun r4=>
    some (bS.mk r3.Frags r3.Nodes r3.Kinds r3.One r4.1))

def wY(s:bS):Option bS:=
 some s

def iY(n:M)(kinds:(List Int))(a2:bS)(b5:bS):Option bS:=
  (ph n kinds a2 b5).bind fun r9=>
  (if(!a2.One)then((ia a2.Hashed b5.Hashed).bind fun r10=>
  some r10)else some false).bind fun t1=>
  if t1 then
  (wY (bS.mk r9.Frags r9.Nodes r9.Kinds r9.One a2.Hashed))
  else
  (wY r9)

def dd(n:M)(kinds:(List Int))(c:bG)(a1:bS)(b:bS):Option bS:=
  if(n.Op==(1:Int))then
  ((cK c.Tables n.Table).bind fun e=>
  some (⟨[],[n],kinds,false,e.Keys⟩:bS))
  else
  (if(n.Op==(2:Int))then
  ((xA n kinds a1 b).bind fun r=>
  some r)
  else
  (if(n.Op==(3:Int))then
  ((eX n kinds a1).bind fun r1=>
  some r1)
  else
  (if(n.Op==(4:Int))then
  ((vy n kinds a1).bind fun r2=>
  some r2)
  else
  (if(n.Op==(5:Int))then
  (gy n kinds a1 dj ([]:List Int) (0:Int))
  else
  (if(n.Op==(6:Int))then
  (if(a1.One||(decide ((0:Int)<(a1.Hashed.length:Int))))then
  ((eX n kinds a1).bind fun r5=>
  some r5)
  else
  ((p9 (kinds.length:Int)).bind fun r6=>
  (gC a1 (1:Int) r6).bind fun r7=>
  (eX n kinds r7).bind fun r8=>
  some r8))
  else
  (if(n.Op==(7:Int))then
  (if(a1.One !=b.One)then
  (if(!a1.One)then
  ((dC (bS.mk b.Frags a1.Nodes a1.Kinds a1.One a1.Hashed)).bind fun r11=>
  iY n kinds r11 (bS.mk r11.Frags b.Nodes b.Kinds b.One b.Hashed))
  else
  ((dC b).bind fun r12=>
  iY n kinds a1 r12))
  else
  (iY n kinds a1 b))
  else
  ((eX n kinds a1).bind fun r13=>
  if a1.One then
  (some (bS.mk r13.Frags r13.Nodes r13.Kinds r13.One ([])))
  else
  ((dC (bS.mk r13.Frags r13.Nodes r13.Kinds r13.One ([]))).bind fun r14=>
  (eX n kinds r14).bind fun r15=>
  some r15))))))))

def tF(s:bS):Option bS:=
 some s

def kG(c:bG)(frags:(List bk))(e:M)(r:(List Int)×Bool)(a1:bS)(b4:bS):Option bS:=
 (dd e r.1 c a1 b4).bind fun r1=>
 if(decide (e.A<(0:Int)))then
 (tF (bS.mk frags r1.Nodes r1.Kinds r1.One r1.Hashed))
 else
 (tF r1)

def fy(self__:bK→bG→Int→(List bk)→Option bS)(l:bK)(c:bG)(frags:(List bk))(e:M)(r:(List Int)×Bool)(a1:bS):Option bS:=
  if(decide ((0:Int)≤e.B))then
  ((self__ l c e.B a1.Frags).bind fun r2=>
  kG c frags e r a1 r2)
  else
  (kG c frags e r a1 (⟨[],[],[],false,[]⟩:bS))

def dA:Nat→bK→bG→Int→(List bk)→Option bS
  |0,_,_,_,_=>none
  |fu+1,l,c,i,frags=>
    (cK l.Nodes i).bind fun e=>
    (kX l i).bind fun r=>
    if(decide ((0:Int)≤e.A))then
    (((dA fu) l c e.A frags).bind fun r3=>
    fy (dA fu) l c frags e r r3)
    else
    (fy (dA fu) l c frags e r (⟨frags,[],[],false,[]⟩:bS))

def sX(l:bK)(c:bG)(i:Int)(frags:(List bk)):Option bS:=
 dA dj l c i frags

def lL(l2:List bk):Nat→Int→cC→Option (cC×Int)
  |0,_,_=>none
  |n+1,i,x=>
    if(decide (i<(((⟨l2⟩:cC).Frags).length:Int)))then
    ((cK ((⟨l2⟩:cC).Frags) i).bind fun e=>
    if(decide ((60:Int)<(e.Nodes.length:Int)))then
    (some ((⟨[]⟩:cC),(3:Int)))
    else
    ((lL l2 n) (IntKind.i64.wrap (i+(1:Int))) x))
    else
    (some ((⟨l2⟩:cC),(0:Int)))

def xB(l:bK)(c:bG):Option (cC×Int):=
  (vz l).bind fun r=>
  if(!r)then
  (some ((⟨[]⟩:cC),(230:Int)))
  else
  ((vB c).bind fun r1=>
  if(!r1)then
  (some ((⟨[]⟩:cC),(210:Int)))
  else
  ((AB l c).bind fun r2=>
  if(!r2)then
  (some ((⟨[]⟩:cC),(2:Int)))
  else
  ((sX l c (IntKind.i64.wrap ((l.Nodes.length:Int)-(1:Int))) ([])).bind fun r3=>
  (dC r3).bind fun r4=>
  (iC ([]:List bk) r4.Frags).bind fun l1=>
  (iC l1 ([(⟨r4.Nodes,(2:Int),(4:Int),[]⟩:bk)])).bind fun l2=>
  if(decide ((30:Int)<(((⟨l2⟩:cC).Frags).length:Int)))then
  (some ((⟨[]⟩:cC),(3:Int)))
  else
  (lL l2 dj (0:Int) (⟨[]⟩:cC)))))

end Go.Proofs.YtnmjbolollcokaaGreatDoor

