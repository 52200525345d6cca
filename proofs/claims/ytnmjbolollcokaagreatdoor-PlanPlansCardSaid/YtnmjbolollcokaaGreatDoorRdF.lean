/- dr of this claim: F. -/
import Derived.Test.YtnmjbolollcokaaGreatDoorRdD
import Derived.Test.YtnmjbolollcokaaGreatDoorRdV4
import Derived.Lib.MapU
set_option linter.all false
namespace Go.Proofs.YtnmjbolollcokaaGreatDoor
open Go

def gm(f:(Int→Option Bool)):List Int→Nat→Option Int
 |[],i=>
  some (-1:Int)
 |e::tl,i=>
  (f e).bind fun r=>
  if r then
  (some (i:Int))
  else
  ((gm f tl) (i+1))

def me(s:(List Int))(f:(Int→Option Bool)):Option Int:=
 gm f s 0

def eS(s:(List Int))(f:(Int→Option Bool)):Option Bool:=
 (me s f).bind fun r=>
 some (decide ((0:Int)≤r))

def Ci(k:Int):Option Bool:=
 some (((k==(1:Int))||(k==(2:Int)))||(k==(3:Int)))

def lT(k:Int):Option Bool:=
 (Ci k).bind fun r=>
 some (!r)

def gB(c:aG)(n:af):Option ((List Int)×Bool):=
  (if((((decide ((0:Int)≤n.Table))&&(decide (n.Table<(4:Int))))&&(decide ((1:Int)≤(n.Kinds.length:Int))))&&(decide ((n.Kinds.length:Int)≤(4:Int))))then((eS n.Kinds lT).bind fun r=>
  some (!r))else some false).bind fun t=>
  some (n.Kinds,t)

def ni(s:List Int):Option (List Int):=
 some s

def nj(n:Int):Option (List Int):=
  if(decide ((0:Int)<(IntKind.i64.wrap (n-(IntKind.i64.wrap ((0:Int)-(0:Int)))))))then
  ((XY (IntKind.i64.wrap (n-(IntKind.i64.wrap ((0:Int)-(0:Int)))))).bind fun _=>
  (vU (IntKind.i64.wrap (n-(IntKind.i64.wrap ((0:Int)-(0:Int))))) (0:Int)).bind fun mk=>
  (fy mk 0 (0:Int)).bind fun y=>
  ni y)
  else
  (ni ([]:List Int))

def mD(n:Int):Option (List Int):=
 if(decide (n<(0:Int)))then
 (none)
 else
 (nj n)

def jH:List (List Int)→(List Int)→Option (List Int)
 |[],newslice=>
  some newslice
 |e1::tl1,newslice=>
  (kq newslice e1).bind fun newslice1=>
  (jH tl1) newslice1

def jI(slices:(List (List Int))):List (List Int)→Int→Option (List Int)
 |[],size=>
  (mD size).bind fun r=>
  jH slices r
 |e::tl,size=>
  if(decide ((IntKind.i64.wrap (size+(e.length:Int)))<(0:Int)))then
  (none)
  else
  ((jI slices tl) (IntKind.i64.wrap (size+(e.length:Int))))

def jp(slices:(List (List Int))):Option (List Int):=
 jI slices slices (0:Int)

def ru(tag:Int):Option Int:=
  if((tag==(1:Int))||(tag==(2:Int)))then
  (some (0:Int))
  else
  (if((decide ((4:Int)≤tag))&&(decide (tag≤(7:Int))))then
  (some (1:Int))
  else
  (if((decide ((12:Int)≤tag))&&(decide (tag≤(23:Int))))then
  (some (2:Int))
  else
  (some (-1:Int))))

def k5(v1:df):Option df:=
 some v1

def qv(v2:df):Option df:=
 k5 (df.mk (0:Int) v2.N v2.U v2.S)

def qu(v:df):Option df:=
 qv (df.mk v.Kind (0:Int) v.U v.S)

def qt(v3:df):Option df:=
 k5 v3

def xg(v:df):Option df:=
  if(v.Kind==(1:Int))then
  (if((v.N !=(0:Int))&&(v.N !=(1:Int)))then
  (k5 v)
  else
  (qu v))
  else
  (if(v.Kind==(2:Int))then
  (qu v)
  else
  (if(v.Kind==(0:Int))then
  (qv v)
  else
  (if(v.Kind==(3:Int))then
  (if(decide ((v.S.length:Int)≤(40:Int)))then
  (qt (df.mk (0:Int) v.N v.U ([])))
  else
  (qt v))
  else
  (if(v.Kind==(4:Int))then
  (k5 (df.mk (0:Int) (0:Int) (0:Int) v.S))
  else
  (k5 v)))))

def uC(v:df):Option Int:=
 (xg v).bind fun r=>
 if(!decide (r=(⟨(0:Int),(0:Int),(0:Int),[]⟩:df)))then
 (some (120:Int))
 else
 (some (0:Int))

def uB(v:df):Option Bool:=
 (uC v).bind fun r=>
 some ((r==(0:Int))&&(v.Kind !=(4:Int)))

def u3(n:bq):Option Bool:=
  if(n.Tag==(1:Int))then
  ((uB n.Value).bind fun r=>
  some (r&&(n.Col==(0:Int))))
  else
  (if(n.Tag==(2:Int))then
  (some (((decide (n.Value=(⟨(0:Int),(0:Int),(0:Int),[]⟩:df)))&&(decide ((0:Int)≤n.Col)))&&(decide (n.Col<(16:Int)))))
  else
  (some ((decide (n.Value=(⟨(0:Int),(0:Int),(0:Int),[]⟩:df)))&&(n.Col==(0:Int)))))

def mZ(nx:Nat→(List Int)→(List Int)→Option ((List Int)×Bool))(i:Nat)(e1:bq)(all:List Int)(open1:List Int)(r:Int):List Int→Nat→Int→(List Int)→Option ((List Int)×Bool)
  |[],i1,first,at1=>
    if(!decide (at1=([e1.L,e1.R])))then
    (some ([],false))
    else
    ((kq all ([first])).bind fun all1=>
    (fy open1 0 (IntKind.i64.wrap ((open1.length:Int)-r))).bind fun y1=>
    (kq y1 ([(i:Int)])).bind fun open2=>
    nx (i+1) all1 open2)
  |e2::tl1,i1,first,at1=>
    (dw all e2).bind fun e3=>
    (dw at1 (i1:Int)).bind fun e4=>
    (some (at1.set (i1:Int).toNat e2)).bind fun ar=>
    (mZ nx i e1 all open1 r tl1) (i1+1) (min first e3) ar

def li:List bq→Nat→(List Int)→(List Int)→Option ((List Int)×Bool)
  |[],i,all,open1=>
    some (all,(((open1.length:Int)==(1:Int))&&(decide ((all.length:Int)≤(1000:Int)))))
  |e1::tl,i,all,open1=>
    (ru e1.Tag).bind fun r=>
    (if(!((decide (r<(0:Int)))||(decide ((open1.length:Int)<r))))then((u3 e1).bind fun r1=>
    some (!r1))else some true).bind fun t=>
    if t then
    (some ([],false))
    else
    ((fy open1 (IntKind.i64.wrap ((open1.length:Int)-r)) (open1.length:Int)).bind fun y=>
    mZ (li tl) i e1 all open1 r y 0 (i:Int) ([(-1:Int),(-1:Int)]))

def sJ(e:bf):Option ((List Int)×Bool):=
 li e.Nodes 0 ([]:List Int) ([]:List Int)

def p8(e:bf):Option Int:=
 (sJ e).bind fun r=>
 if(!r.2)then
 (some (200:Int))
 else
 (some (0:Int))

def eC(i:Nat)(y:List Int):Nat→Nat→(List Int)→Int→Option (List Int)
  |0,i1,s1,k=>
    (fy s1 k (s1.length:Int)).bind fun y1=>
    (some (s1.take k.toNat++List.replicate y1.length (0:Int))).bind fun cl=>
    (fy cl 0 k).bind fun y2=>
    some y2
  |k2+1,i1,s1,k=>
    (EZ s1 (i:Int) y.length (i1:Int)).bind fun e3=>
    (EZ s1 (i:Int) y.length (IntKind.i64.wrap ((i1:Int)-(1:Int)))).bind fun e4=>
    if(e3 !=e4)then
    ((EZ s1 (i:Int) y.length (i1:Int)).bind fun e5=>
    (dw s1 k).bind fun e6=>
    (some (s1.set k.toNat e5)).bind fun st=>
    (eC i y k2) (i1+1) st (IntKind.i64.wrap (k+(1:Int))))
    else
    ((eC i y k2) (i1+1) s1 k)

def fG(s:(List Int)):List Int→Nat→Option (List Int)
  |[],i=>
    some s
  |e::tl,i=>
    (dw s (IntKind.i64.wrap ((i:Int)-(1:Int)))).bind fun e1=>
    if(e==e1)then
    ((fy s (i:Int) (s.length:Int)).bind fun y=>
    eC i y (y.length-1) 1 s (i:Int))
    else
    ((fG s tl) (i+1))

def kI(s:(List Int)):Option (List Int):=
 if(decide ((s.length:Int)<(2:Int)))then
 (some s)
 else
 (fG s (s.drop (1)) 1)

def nt:List bq→(List Int)→Option (List Int)
  |[],out=>
    (Du out).bind fun VO=>
    (kI VO).bind fun r1=>
    some r1
  |e1::tl,out=>
    if(e1.Tag==(2:Int))then
    ((kq out ([e1.Col])).bind fun cv=>
    (nt tl) cv)
    else
    ((nt tl) out)

def vG(e:bf):Option (List Int):=
 (p8 e).bind fun r=>
 if(r !=(0:Int))then
 (some ([]:List Int))
 else
 (nt e.Nodes ([]:List Int))

def cr(s:(List Int)):Option (List Int):=
 (kq ([]:List Int) s).bind fun x=>
 some x

def pQ(stack:(List Int))(k:Int):Option ((List Int)×(List Int)):=
 (fy stack (IntKind.i64.wrap ((stack.length:Int)-k)) (stack.length:Int)).bind fun y=>
 (cr y).bind fun r=>
 (fy stack 0 (IntKind.i64.wrap ((stack.length:Int)-k))).bind fun y1=>
 some (r,y1)

def mY(bad:Int)(stack:List Int):Option (Int×Int):=
  if(bad !=(0:Int))then
  (some ((0:Int),bad))
  else
  ((dw stack (0:Int)).bind fun e1=>
  some (e1,(0:Int)))

def iH(do1:(bq→(List Int)→Option (Int×Int))):List bq→Int→(List Int)→Option (Int×Int)
  |[],bad1,stack1=>
    mY bad1 stack1
  |e2::tl,bad1,stack1=>
    (ru e2.Tag).bind fun r=>
    (pQ stack1 r).bind fun r1=>
    (do1 e2 r1.1).bind fun r2=>
    if(r2.2 !=(0:Int))then
    (mY r2.2 r1.2)
    else
    ((kq r1.2 ([r2.1])).bind fun l2=>
    (iH do1 tl) bad1 l2)

def pM(e:bf)(do1:(bq→(List Int)→Option (Int×Int))):Option (Int×Int):=
 iH do1 e.Nodes (0:Int) ([]:List Int)

def sY(tag:Int):Option Bool:=
 some ((tag==(4:Int))||((decide ((12:Int)≤tag))&&(decide (tag≤(15:Int)))))

def m4(kinds:(List Int))(n:bq):List Int→Int→Option (Int×Int)
  |[],own=>
    if(n.Tag==(1:Int))then
    (some (n.Value.Kind,(0:Int)))
    else
    (if(n.Tag==(2:Int))then
    ((dw kinds n.Col).bind fun e1=>
    some (e1,(0:Int)))
    else
    ((sY n.Tag).bind fun r=>
    if r then
    (if((own==(-1:Int))||((own !=(0:Int))&&(own !=(2:Int))))then
    (some ((0:Int),(201:Int)))
    else
    (some ((2:Int),(0:Int))))
    else
    (if(((n.Tag==(5:Int))||(n.Tag==(22:Int)))||(n.Tag==(23:Int)))then
    (if((own==(-1:Int))||((own !=(0:Int))&&(own !=(1:Int))))then
    (some ((0:Int),(201:Int)))
    else
    (some ((1:Int),(0:Int))))
    else
    (if((own==(-1:Int))||((own !=(0:Int))&&(own !=own)))then
    (some ((0:Int),(201:Int)))
    else
    (some ((1:Int),(0:Int)))))))
  |e::tl,own=>
    if((e==(0:Int))||(e==own))then
    ((m4 kinds n tl) own)
    else
    (if(own==(0:Int))then
    ((m4 kinds n tl) e)
    else
    ((m4 kinds n tl) (-1:Int)))

def jQ(kinds:(List Int))(n:bq)(l:(List Int)):Option (Int×Int):=
 m4 kinds n l (0:Int)

def nr(e:bf)(kinds:(List Int)):List Int→Option (Int×Int)
 |[]=>
  (pM e (jQ kinds)).bind fun r2=>
  some (r2.1,r2.2)
 |e2::tl1=>
  if(decide ((kinds.length:Int)≤e2))then
  (some ((0:Int),(2:Int)))
  else
  ((nr e kinds tl1))

def qN(e:bf)(kinds:(List Int)):List Int→Option (Int×Int)
 |[]=>
  (vG e).bind fun r1=>
  nr e kinds r1
 |e1::tl=>
  if((decide (e1<(0:Int)))||(decide ((3:Int)<e1)))then
  (some ((0:Int),(2:Int)))
  else
  ((qN e kinds tl))

def tN(e:bf)(kinds:(List Int)):Option (Int×Int):=
 (p8 e).bind fun r=>
 if(r !=(0:Int))then
 (some ((0:Int),r))
 else
 (qN e kinds kinds)

def sD(e:bf)(kinds:(List Int)):Option Bool:=
 (tN e kinds).bind fun r=>
 some ((r.2==(0:Int))&&((r.1==(1:Int))||(r.1==(0:Int))))

def iw(c:aG)(n:af):Option ((List Int)×Bool):=
 (dw c.kinds n.A).bind fun e=>
 (dw c.kinds n.B).bind fun e1=>
 (jp ([e,e1])).bind fun r=>
 (sD n.Cond r).bind fun r1=>
 some (r,r1)

def gC(c:aG)(n:af):Option ((List Int)×Bool):=
 (dw c.kinds n.A).bind fun e=>
 (sD n.Cond e).bind fun r=>
 some (e,r)

def qJ(kinds:(List Int))(c:Int):Option Bool:=
 some ((decide (c<(0:Int)))||(decide ((kinds.length:Int)≤c)))

def tp(l:(List Int))(kinds:(List Int)):Option Bool:=
 (eS l (qJ kinds)).bind fun r=>
 some (!r)

def tt(r:Int×Int)(x:Bool):Option (Int×Bool):=
 if x then
 (some (r.1,(r.2==(0:Int))))
 else
 (some ((0:Int),false))

def yw(a1:ip)(kinds:(List Int)):Option (Int×Bool):=
  if(a1.Tag==(1:Int))then
  (some ((2:Int),((a1.Arg.Nodes.length:Int)==(0:Int))))
  else
  ((tN a1.Arg kinds).bind fun r=>
  if(a1.Tag==(2:Int))then
  (some ((2:Int),(r.2==(0:Int))))
  else
  (if(a1.Tag==(3:Int))then
  (some ((2:Int),((r.2==(0:Int))&&((r.1==(2:Int))||(r.1==(0:Int))))))
  else
  (if(a1.Tag==(4:Int))then
  (tt r (a1.Tag==(4:Int)))
  else
  (tt r (a1.Tag==(5:Int))))))

def fL(e:(List Int)):List ip→(List Int)→Bool→Option ((List Int)×Bool)
 |[],cv,ok=>
  some (cv,ok)
 |e2::tl1,cv,ok=>
  (yw e2 e).bind fun r1=>
  (kq cv ([r1.1])).bind fun sT=>
  (fL e tl1) sT (ok&&r1.2)

def gR(n:af)(e:(List Int))(t:Bool):List Int→(List Int)→Option ((List Int)×Bool)
 |[],out=>
  fL e n.Aggs out t
 |e1::tl,out=>
  (dw e e1).bind fun e3=>
  (kq out ([e3])).bind fun out3=>
  (gR n e t tl) out3

def hU(c:aG)(n:af):Option ((List Int)×Bool):=
  (dw c.kinds n.A).bind fun e=>
  (if(((decide ((n.Keys.length:Int)≤(3:Int)))&&(decide ((n.Aggs.length:Int)≤(12:Int))))&&(decide ((0:Int)<(IntKind.i64.wrap ((n.Keys.length:Int)+(n.Aggs.length:Int))))))then((tp n.Keys e).bind fun r=>
  some r)else some false).bind fun t=>
  if(!t)then
  (some ([],false))
  else
  (gR n e t n.Keys ([]:List Int))

def fY(c:aG)(n:af):List bf→(List Int)→Bool→Option ((List Int)×Bool)
 |[],out,ok=>
  some (out,ok)
 |e::tl,out,ok=>
  (dw c.kinds n.A).bind fun e1=>
  (tN e e1).bind fun r=>
  (kq out ([r.1])).bind fun cv=>
  (fY c n tl) cv (ok&&(r.2==(0:Int)))

def ge(c:aG)(n:af):Option ((List Int)×Bool):=
 fY c n n.Items ([]:List Int) ((decide ((1:Int)≤(n.Items.length:Int)))&&(decide ((n.Items.length:Int)≤(16:Int))))

def fM(c:aG)(n:af):Option ((List Int)×Bool):=
 (dw c.kinds n.A).bind fun e=>
 some (e,true)

def i9(nx:Nat→(List Int)→Bool→Option ((List Int)×Bool))(i:Nat)(e2:Int)(ok:Bool)(cv:List Int):Option ((List Int)×Bool):=
  (if ok then((dw cv (i:Int)).bind fun e3=>
  some ((e3==e2)||(e2==(0:Int))))else some false).bind fun t=>
  nx (i+1) cv t

def d7:List Int→Nat→(List Int)→Bool→Option ((List Int)×Bool)
  |[],i,out,ok=>
    some (out,ok)
  |e2::tl,i,out,ok=>
    (dw out (i:Int)).bind fun e4=>
    if(e4==(0:Int))then
    ((some (out.set (i:Int).toNat e2)).bind fun st=>
    i9 (d7 tl) i e2 ok st)
    else
    (i9 (d7 tl) i e2 ok out)

def hJ(c:aG)(n:af):Option ((List Int)×Bool):=
  (dw c.kinds n.A).bind fun e=>
  (dw c.kinds n.B).bind fun e1=>
  if((e.length:Int) !=(e1.length:Int))then
  (some ([],false))
  else
  ((cr e).bind fun r=>
  d7 e1 0 r true)

def lq(in1:(List Int))(o:mB):Option Bool:=
 some ((decide (o.Col<(0:Int)))||(decide ((in1.length:Int)≤o.Col)))

def ed(f:(mB→Option Bool)):List mB→Nat→Option Int
 |[],i=>
  some (-1:Int)
 |e::tl,i=>
  (f e).bind fun r=>
  if r then
  (some (i:Int))
  else
  ((ed f tl) (i+1))

def iU(s:(List mB))(f:(mB→Option Bool)):Option Int:=
 ed f s 0

def fv(s:(List mB))(f:(mB→Option Bool)):Option Bool:=
 (iU s f).bind fun r=>
 some (decide ((0:Int)≤r))

def hM(c:aG)(n:af):Option ((List Int)×Bool):=
  (dw c.kinds n.A).bind fun e=>
  (if(decide ((n.Order.length:Int)≤(3:Int)))then((fv n.Order (lq e)).bind fun r=>
  some (!r))else some false).bind fun t=>
  some (e,(((t&&(decide ((-1:Int)≤n.Limit)))&&(decide (n.Limit≤(2147483647:Int))))&&((c.kinds.length:Int)==(IntKind.i64.wrap ((c.Logic.Nodes.length:Int)-(1:Int))))))

def uf(n:af):Option Bool:=
 some (((((((((n.Table==(0:Int))&&((n.Kinds.length:Int)==(0:Int)))&&(!n.Left))&&((n.Cond.Nodes.length:Int)==(0:Int)))&&((n.Keys.length:Int)==(0:Int)))&&((n.Aggs.length:Int)==(0:Int)))&&((n.Items.length:Int)==(0:Int)))&&((n.Order.length:Int)==(0:Int)))&&(n.Limit==(0:Int)))

def ug(n:af):Option af:=
  if(n.Op==(1:Int))then
  (some (af.mk n.Op n.A n.B (0:Int) ([]) n.Left n.Cond n.Keys n.Aggs n.Items n.Order n.Limit))
  else
  (if(n.Op==(2:Int))then
  (some (af.mk n.Op n.A n.B n.Table n.Kinds false (⟨[]⟩:bf) n.Keys n.Aggs n.Items n.Order n.Limit))
  else
  (if(n.Op==(3:Int))then
  (some (af.mk n.Op n.A n.B n.Table n.Kinds n.Left (⟨[]⟩:bf) n.Keys n.Aggs n.Items n.Order n.Limit))
  else
  (if(n.Op==(4:Int))then
  (some (af.mk n.Op n.A n.B n.Table n.Kinds n.Left n.Cond ([]) ([]) n.Items n.Order n.Limit))
  else
  (if(n.Op==(5:Int))then
  (some (af.mk n.Op n.A n.B n.Table n.Kinds n.Left n.Cond n.Keys n.Aggs ([]) n.Order n.Limit))
  else
  (if(n.Op==(8:Int))then
  (some (af.mk n.Op n.A n.B n.Table n.Kinds n.Left n.Cond n.Keys n.Aggs n.Items ([]) (0:Int)))
  else
  (some n))))))

def qK(x:Bool):Option Int:=
 if x then
 (some (2:Int))
 else
 (some (1:Int))

def uQ(op:Int):Option Int:=
  if(op==(1:Int))then
  (some (0:Int))
  else
  (if(op==(2:Int))then
  (qK (op==(2:Int)))
  else
  (qK (op==(7:Int))))

def kF(c:aG)(i:Int):Option (Int×Bool):=
  (dw c.Logic.Nodes i).bind fun e=>
  (uQ e.Op).bind fun r=>
  if(r==(0:Int))then
  (some (i,((e.A==(-1:Int))&&(e.B==(-1:Int)))))
  else
  (if(r==(1:Int))then
  (if(((e.A !=(IntKind.i64.wrap (i-(1:Int))))||(e.B !=(-1:Int)))||(i==(0:Int)))then
  (some ((0:Int),false))
  else
  ((dw c.first e.A).bind fun e1=>
  some (e1,true)))
  else
  ((if(!((e.B !=(IntKind.i64.wrap (i-(1:Int))))||(i==(0:Int))))then((dw c.first e.B).bind fun e2=>
  some (e.A !=(IntKind.i64.wrap (e2-(1:Int)))))else some true).bind fun t=>
  if(t||(decide (e.A<(0:Int))))then
  (some ((0:Int),false))
  else
  ((dw c.first e.A).bind fun e3=>
  some (e3,true))))

def gS{Sg:Type}(yld:(Int×Bool)→Sg→Option (Bool×Sg))(nx:Nat→Sg→aG→Option (Sg×aG))(i:Nat)(s1:Sg)(ok1:Bool)(kinds:(List Int))(ob2:aG):Option (Sg×aG):=
 (kq ob2.kinds ([kinds])).bind fun l6=>
 (yld ((i:Int),(ok1&&(decide ((kinds.length:Int)≤(16:Int))))) s1).bind fun r2=>
 if((!r2.1)||(!(ok1&&(decide ((kinds.length:Int)≤(16:Int))))))then
 (some (r2.2,({ob2 with kinds:=l6}:aG)))
 else
 (nx (i+1) r2.2 ({ob2 with kinds:=l6}:aG))

def eK{Sg:Type}(yld:(Int×Bool)→Sg→Option (Bool×Sg))(nx:Nat→Sg→aG→Option (Sg×aG))(i:Nat)(e2:af)(s1:Sg)(ok:Bool)(ob1:aG):Option (Sg×aG):=
  if ok then
  ((((sU (fQ (fQ (fQ (fQ (fQ (fQ (fQ (fQ ([]:List (Int×(aG→af→Option (((List Int)×Bool)×aG)))) (1:Int) (fun(mc:aG) (mx:af)=>(gB mc mx).map fun mr=>(mr,mc))) (2:Int) (fun(mc:aG) (mx:af)=>(iw mc mx).map fun mr=>(mr,mc))) (3:Int) (fun(mc:aG) (mx:af)=>(gC mc mx).map fun mr=>(mr,mc))) (4:Int) (fun(mc:aG) (mx:af)=>(hU mc mx).map fun mr=>(mr,mc))) (5:Int) (fun(mc:aG) (mx:af)=>(ge mc mx).map fun mr=>(mr,mc))) (6:Int) (fun(mc:aG) (mx:af)=>(fM mc mx).map fun mr=>(mr,mc))) (7:Int) (fun(mc:aG) (mx:af)=>(hJ mc mx).map fun mr=>(mr,mc))) (8:Int) (fun(mc:aG) (mx:af)=>(hM mc mx).map fun mr=>(mr,mc))) e2.Op).getD (fun _ _=>none)) ob1 (e2)).bind fun r3=>
  gS yld nx i s1 r3.1.2 r3.1.1 r3.2)
  else
  (gS yld nx i s1 ok ([]) ob1)

def bY{Sg:Type}(yld:(Int×Bool)→Sg→Option (Bool×Sg)):List af→Nat→Sg→aG→Option (Sg×aG)
  |[],i,s1,ob=>
    some (s1,ob)
  |e2::tl,i,s1,ob=>
    (if((sU (fQ (fQ (fQ (fQ (fQ (fQ (fQ (fQ ([]:List (Int×(aG→af→Option (((List Int)×Bool)×aG)))) (1:Int) (fun(mc:aG) (mx:af)=>(gB mc mx).map fun mr=>(mr,mc))) (2:Int) (fun(mc:aG) (mx:af)=>(iw mc mx).map fun mr=>(mr,mc))) (3:Int) (fun(mc:aG) (mx:af)=>(gC mc mx).map fun mr=>(mr,mc))) (4:Int) (fun(mc:aG) (mx:af)=>(hU mc mx).map fun mr=>(mr,mc))) (5:Int) (fun(mc:aG) (mx:af)=>(ge mc mx).map fun mr=>(mr,mc))) (6:Int) (fun(mc:aG) (mx:af)=>(fM mc mx).map fun mr=>(mr,mc))) (7:Int) (fun(mc:aG) (mx:af)=>(hJ mc mx).map fun mr=>(mr,mc))) (8:Int) (fun(mc:aG) (mx:af)=>(hM mc mx).map fun mr=>(mr,mc))) e2.Op).isSome)then((ug e2).bind fun r=>
    (uf r).bind fun r1=>
    some r1)else some false).bind fun t=>
    if t then
    ((kF ob (i:Int)).bind fun r4=>
    (kq ob.first ([r4.1])).bind fun l7=>
    eK yld (bY yld tl) i e2 s1 r4.2 ({ob with first:=l7}:aG))
    else
    (eK yld (bY yld tl) i e2 s1 t ob)

def mE{Sg:Type}(c:aG)(yld:(Int×Bool)→Sg→Option (Bool×Sg))(s:Sg):Option (Sg×aG):=
 bY yld c.Logic.Nodes 0 s c

def qL(c:aG):Option (Mo (Int×Bool) aG):=
 some (fun _=>mE c)

def pG(x:Int×Bool)(x1:Bool)(x2:Int)(p:Bool):Option (Option Nat×(Bool×Int×Bool)):=
 if(!x.2)then
 (some (some 0,(false,x.1,true)))
 else
 (some (none,(x1,x2,p)))

def nm(l:bR):Option (aG×Int×Bool):=
  if((decide ((l.Nodes.length:Int)<(1:Int)))||(decide ((60:Int)<(l.Nodes.length:Int))))then
  (some ((⟨l,[],[]⟩:aG),(0:Int),false))
  else
  ((qL (⟨l,[],[]⟩:aG)).bind fun it=>
  (it (Option Nat×(Bool×Int×Bool)) (y8 (fun x s=>pG x s.1 s.2.1 s.2.2)) (none,(false,(0:Int),false))).bind fun r=>
  if r.1.1.isNone then
  ((dw r.2.first (IntKind.i64.wrap ((l.Nodes.length:Int)-(1:Int)))).bind fun e=>
  some (r.2,(IntKind.i64.wrap ((l.Nodes.length:Int)-(1:Int))),(e==(0:Int))))
  else
  ((Yb r.1.2.2.2).bind fun _=>
  some (r.2,r.1.2.2.1,r.1.2.1)))

def sE(l:bR):Option ((List Int)×Int):=
  (nm l).bind fun r=>
  if(!r.2.2)then
  (some ([],(230:Int)))
  else
  ((dw r.1.kinds r.2.1).bind fun e=>
  (cr e).bind fun r1=>
  some (r1,(0:Int)))

def uR(l:bR):Option (Int×Int):=
 (nm l).bind fun r=>
 if(!r.2.2)then
 (some (r.2.1,(230:Int)))
 else
 (some ((0:Int),(0:Int)))

def vD(c:Int):Option Bool:=
 some ((decide ((97:Int)≤c))&&(decide (c≤(122:Int))))

def fE(v:jb):List jb→Nat→Option Int
 |[],i=>
  some (-1:Int)
 |e::tl,i=>
  if(v==e)then
  (some (i:Int))
  else
  ((fE v tl) (i+1))

def k6(s:(List jb))(v:jb):Option Int:=
 fE v s 0

def jM(s:(List jb))(v:jb):Option Bool:=
 (k6 s v).bind fun r=>
 some (decide ((0:Int)≤r))

def wq(s:jb):Option Bool:=
 (jM VW s).bind fun r=>
 some r

def kg(s:jb):Option jb:=if s.length<35184372088832 then some (Lib.toUpperD s)else none

def yx(c:Int):Option Bool:=
 some ((decide ((48:Int)≤c))&&(decide (c≤(57:Int))))

def pH:List (Int×Int)→Option Bool
  |[]=>
    some true
  |e::tl=>
    (yx e.2).bind fun r3=>
    (if(!r3)then((vD e.2).bind fun r4=>
    some (!r4))else some false).bind fun t2=>
    if(t2&&(e.2 !=(95:Int)))then
    (some false)
    else
    ((pH tl))

def ro(s:jb):Option Bool:=
  (if(!((s==([]))||(decide ((16:Int)<(s.length:Int)))))then((AH s (0:Int)).bind fun b=>
  (vD (IntKind.i32.wrap b)).bind fun r=>
  some (!r))else some true).bind fun t=>
  (if(!t)then((kg s).bind fun r1=>
  (wq r1).bind fun r2=>
  some r2)else some true).bind fun t1=>
  if t1 then
  (some false)
  else
  (pH (Ic s))

def cW(f:(bT→Option Bool)):List bT→Nat→Option Int
 |[],i=>
  some (-1:Int)
 |e::tl,i=>
  (f e).bind fun r=>
  if r then
  (some (i:Int))
  else
  ((cW f tl) (i+1))

def gw(s:(List bT))(f:(bT→Option Bool)):Option Int:=
 cW f s 0

def fI(of:(bT→Option jb))(name:jb)(p:bT):Option Bool:=
 (of p).bind fun r=>
 some (r==name)

def j8(l:(List bT))(of:(bT→Option jb))(name:jb):Option (Int×Bool):=
 (gw l (fI of name)).bind fun r=>
 some ((max r (0:Int)),decide ((0:Int)≤r))

def gE(l:(List bT))(of:(bT→Option jb)):List bT→Nat→Option Bool
  |[],i=>
    some true
  |e::tl,i=>
    (of e).bind fun r=>
    (j8 l of r).bind fun r1=>
    (if(!(r1.1 !=(i:Int)))then((of e).bind fun r2=>
    (ro r2).bind fun r3=>
    some (!r3))else some true).bind fun t=>
    if t then
    (some false)
    else
    ((gE l of tl) (i+1))

def m5(l:(List bT))(of:(bT→Option jb)):Option Bool:=
 gE l of l 0

def fO(c:bT):Option jb:=
 some c.Name

def kp(kind:Int):Nat→Nat→Option jb
 |0,i=>
  some ([])
 |k1+1,i=>
  (dw T5 (i:Int)).bind fun e1=>
  if(e1.kind==kind)then
  (some e1.word)
  else
  ((kp kind k1) (i+1))

def tE(kind:Int):Option jb:=
 kp kind 3 0

def gh(t:ca):List Int→Nat→Bool→Option Int
  |[],i1,ok1=>
    if(!ok1)then
    (some (211:Int))
    else
    (some (0:Int))
  |e1::tl1,i1,ok1=>
    (if((ok1&&(decide ((0:Int)≤e1)))&&(decide (e1<(t.Columns.length:Int))))then((if(!((i1:Int)==(0:Int)))then((dw t.Keys (IntKind.i64.wrap ((i1:Int)-(1:Int)))).bind fun e2=>
    some (decide (e2<e1)))else some true).bind fun t3=>
    some t3)else some false).bind fun t2=>
    (gh t tl1) (i1+1) t2

def ij(t:ca):List bT→Bool→Option Int
  |[],ok=>
    gh t t.Keys 0 ok
  |e::tl,ok=>
    (if ok then((tE e.Kind).bind fun r2=>
    some (!(r2==([]))))else some false).bind fun t4=>
    (ij t tl) t4

def nv(t:ca):Option Int:=
  (ro t.Name).bind fun r=>
  (if((r&&(decide ((1:Int)≤(t.Columns.length:Int))))&&(decide ((t.Columns.length:Int)≤(4:Int))))then((m5 t.Columns fO).bind fun r1=>
  some r1)else some false).bind fun t1=>
  ij t t.Columns t1

def lF(t:ca):Option Bool:=
 (nv t).bind fun r=>
 some (r !=(0:Int))

def cy(f:(ca→Option Bool)):List ca→Nat→Option Int
 |[],i=>
  some (-1:Int)
 |e::tl,i=>
  (f e).bind fun r=>
  if r then
  (some (i:Int))
  else
  ((cy f tl) (i+1))

def dX(s:(List ca))(f:(ca→Option Bool)):Option Int:=
 cy f s 0

def gr(s:(List ca))(f:(ca→Option Bool)):Option Bool:=
 (dX s f).bind fun r=>
 some (decide ((0:Int)≤r))

def fZ(of:(ca→Option jb))(name:jb)(p:ca):Option Bool:=
 (of p).bind fun r=>
 some (r==name)

def kN(l:(List ca))(of:(ca→Option jb))(name:jb):Option (Int×Bool):=
 (dX l (fZ of name)).bind fun r=>
 some ((max r (0:Int)),decide ((0:Int)≤r))

def gY(l:(List ca))(of:(ca→Option jb)):List ca→Nat→Option Bool
  |[],i=>
    some true
  |e::tl,i=>
    (of e).bind fun r=>
    (kN l of r).bind fun r1=>
    (if(!(r1.1 !=(i:Int)))then((of e).bind fun r2=>
    (ro r2).bind fun r3=>
    some (!r3))else some true).bind fun t=>
    if t then
    (some false)
    else
    ((gY l of tl) (i+1))

def nu(l:(List ca))(of:(ca→Option jb)):Option Bool:=
 gY l of l 0

def gp(t:ca):Option jb:=
 some t.Name

def rX(c:ce):Option Int:=
  (if(!(decide ((4:Int)<(c.Tables.length:Int))))then((gr c.Tables lF).bind fun r=>
  some r)else some true).bind fun t=>
  (if(!t)then((nu c.Tables gp).bind fun r1=>
  some (!r1))else some true).bind fun t1=>
  if t1 then
  (some (210:Int))
  else
  (some (0:Int))

def gv(s2:(List Int)):List Int→Nat→Option Bool
 |[],i=>
  some true
 |e::tl,i=>
  (dw s2 (i:Int)).bind fun e1=>
  if(e !=e1)then
  (some false)
  else
  ((gv s2 tl) (i+1))

def fF(s1:(List Int))(s2:(List Int)):Option Bool:=
 if((s1.length:Int) !=(s2.length:Int))then
 (some false)
 else
 (gv s2 s1 0)

def rN(nx:Option Bool):Option Bool:=
 nx

def nQ(nx:Option Bool)(e:af):List bT→(List Int)→Option Bool
 |[],kinds=>
  (fF kinds e.Kinds).bind fun r=>
  if(!r)then
  (some false)
  else
  (rN nx)
 |e2::tl1,kinds=>
  (kq kinds ([e2.Kind])).bind fun kinds1=>
  (nQ nx e tl1) kinds1

def kQ(c:ce):List af→Option Bool
  |[]=>
    some true
  |e::tl=>
    if(e.Op !=(1:Int))then
    (rN (kQ c tl))
    else
    (if(decide ((c.Tables.length:Int)≤e.Table))then
    (some false)
    else
    ((dw c.Tables e.Table).bind fun e1=>
    nQ (kQ c tl) e e1.Columns ([]:List Int)))

def zC(l:bR)(c:ce):Option Bool:=
 kQ c l.Nodes

def eD(s:(List mB)):Option (List mB):=
 (kq ([]:List mB) s).bind fun x=>
 some x

def cj(s:(List bq)):Option (List bq):=
 (kq ([]:List bq) s).bind fun x=>
 some x

def fR(s:(List ip)):Option (List ip):=
 (kq ([]:List ip) s).bind fun x=>
 some x

def fg(s:(List bf)):Option (List bf):=
 (kq ([]:List bf) s).bind fun x=>
 some x

def nI:List bf→Nat→af→Option af
 |[],i1,n4=>
  some n4
 |e1::tl1,i1,n4=>
  (dw n4.Items (i1:Int)).bind fun e2=>
  (cj e2.Nodes).bind fun r6=>
  (some (n4.Items.set (i1:Int).toNat ({e2 with Nodes:=r6}:bf))).bind fun st=>
  (nI tl1) (i1+1) ({n4 with Items:=st}:af)

def nJ:List ip→Nat→af→Option af
 |[],i,n3=>
  nI n3.Items 0 n3
 |e::tl,i,n3=>
  (dw n3.Aggs (i:Int)).bind fun e3=>
  (cj e3.Arg.Nodes).bind fun r7=>
  (some (n3.Aggs.set (i:Int).toNat ({e3 with Arg:=({e3.Arg with Nodes:=r7}:bf)}:ip))).bind fun st1=>
  (nJ tl) (i+1) ({n3 with Aggs:=st1}:af)

def nK(n2:af):Option af:=
 (cr n2.Kinds).bind fun r=>
 (cr n2.Keys).bind fun r1=>
 (eD n2.Order).bind fun r2=>
 (cj (((af.mk n2.Op n2.A n2.B n2.Table r n2.Left n2.Cond r1 n2.Aggs n2.Items r2 n2.Limit).Cond).Nodes)).bind fun r3=>
 (fR (({(af.mk n2.Op n2.A n2.B n2.Table r n2.Left n2.Cond r1 n2.Aggs n2.Items r2 n2.Limit)with Cond:=({(af.mk n2.Op n2.A n2.B n2.Table r n2.Left n2.Cond r1 n2.Aggs n2.Items r2 n2.Limit).Cond with Nodes:=r3}:bf)}:af).Aggs)).bind fun r4=>
 (fg (({(af.mk n2.Op n2.A n2.B n2.Table r n2.Left n2.Cond r1 n2.Aggs n2.Items r2 n2.Limit)with Cond:=({(af.mk n2.Op n2.A n2.B n2.Table r n2.Left n2.Cond r1 n2.Aggs n2.Items r2 n2.Limit).Cond with Nodes:=r3}:bf)}:af).Items)).bind fun r5=>
 nJ r4 0 ({({({(af.mk n2.Op n2.A n2.B n2.Table r n2.Left n2.Cond r1 n2.Aggs n2.Items r2 n2.Limit)with Cond:=({(af.mk n2.Op n2.A n2.B n2.Table r n2.Left n2.Cond r1 n2.Aggs n2.Items r2 n2.Limit).Cond with Nodes:=r3}:bf)}:af)with Aggs:=r4}:af)with Items:=r5}:af)

def pP(by1:Int)(n1:af):Option af:=
 if(decide ((0:Int)≤n1.B))then
 (nK (af.mk n1.Op n1.A (IntKind.i64.wrap (n1.B+by1)) n1.Table n1.Kinds n1.Left n1.Cond n1.Keys n1.Aggs n1.Items n1.Order n1.Limit))
 else
 (nK n1)

def tq(n:af)(by1:Int):Option af:=
 if(decide ((0:Int)≤n.A))then
 (pP by1 (af.mk n.Op (IntKind.i64.wrap (n.A+by1)) n.B n.Table n.Kinds n.Left n.Cond n.Keys n.Aggs n.Items n.Order n.Limit))
 else
 (pP by1 n)

def nT(l:bR)(place:Int)(e:Int):Nat→Int→bR→Option (bR×Int)
  |0,_,_=>none
  |n+1,i,out=>
    if(decide (i≤place))then
    ((dw l.Nodes i).bind fun e1=>
    (tq e1 (IntKind.i64.wrap (0-e))).bind fun r1=>
    (kq out.Nodes ([r1])).bind fun l2=>
    (nT l place e n) (IntKind.i64.wrap (i+(1:Int))) ({out with Nodes:=l2}:bR))
    else
    (some (out,(0:Int)))

def wo(l:bR)(place:Int):Option (bR×Int):=
  (nm l).bind fun r=>
  if(!r.2.2)then
  (some ((⟨[]⟩:bR),(230:Int)))
  else
  (if((decide (place<(0:Int)))||(decide ((l.Nodes.length:Int)≤place)))then
  (some ((⟨[]⟩:bR),(2:Int)))
  else
  ((dw r.1.first place).bind fun e=>
  nT l place e cZ e ({(⟨[]⟩:bR)with Nodes:=([]:List af)}:bR)))

def lP(p:aO)(s:ba)(cols:(List Int))(l:List bK)(r1:(List Int))(at1:Int):Option (ba×aO):=
 some ((⟨[(⟨(9:Int),(-1:Int),(-1:Int),(IntKind.i64.wrap ((l.length:Int)-(1:Int))),r1,false,(⟨[]⟩:bf),[],[],[],[],(0:Int)⟩:af)],s.kinds,at1,cols⟩:ba),({p with Plan:=({p.Plan with Frags:=l}:dp)}:aO))

def eg(p:aO)(s:ba)(way:Int)(cols:(List Int)):Option (ba×aO):=
 (cr cols).bind fun r=>
 (kq p.Plan.Frags ([(⟨s.nodes,s.at_,way,r⟩:bK)])).bind fun l=>
 (cr s.kinds).bind fun r1=>
 if(way==(3:Int))then
 (lP p s cols l r1 (2:Int))
 else
 (lP p s cols l r1 (1:Int))

def dS(p:aO)(s:ba):Option (ba×aO):=
  if(s.at_==(2:Int))then
  (some (s,p))
  else
  ((eg p s (3:Int) ([])).bind fun r=>
  some (r.1,r.2))

def j4(p:aO)(n:af)(kinds:(List Int))(x:(List ba)):Option ba:=
 (dw p.catalog.Tables n.Table).bind fun e=>
 some (⟨[n],kinds,(1:Int),e.Keys⟩:ba)

def eE(s:(List af)):Option (List af):=
 (kq ([]:List af) s).bind fun x=>
 some x

def qG(nx1:ba→Option ba)(cv:ba)(x1:af):Option ba:=
 (kq cv.nodes ([x1])).bind fun l6=>
 nx1 ({cv with nodes:=l6}:ba)

def qH(out:ba)(nx1:ba→Option ba)(cv:ba)(x:af):Option ba:=
 if(decide ((0:Int)≤x.B))then
 (qG nx1 cv (af.mk x.Op x.A (IntKind.i64.wrap (x.B+(out.nodes.length:Int))) x.Table x.Kinds x.Left x.Cond x.Keys x.Aggs x.Items x.Order x.Limit))
 else
 (qG nx1 cv x)

def dT(nx:Nat→af→ba→Option ba)(i:Nat)(n1:af)(out:ba):List af→ba→Option ba
 |[],cv=>
  if((i:Int)==(0:Int))then
  (nx (i+1) (af.mk n1.Op (IntKind.i64.wrap ((cv.nodes.length:Int)-(1:Int))) n1.B n1.Table n1.Kinds n1.Left n1.Cond n1.Keys n1.Aggs n1.Items n1.Order n1.Limit) cv)
  else
  (nx (i+1) (af.mk n1.Op n1.A (IntKind.i64.wrap ((cv.nodes.length:Int)-(1:Int))) n1.Table n1.Kinds n1.Left n1.Cond n1.Keys n1.Aggs n1.Items n1.Order n1.Limit) cv)
 |e2::tl1,cv=>
  if(decide ((0:Int)≤e2.A))then
  (qH out (dT nx i n1 out tl1) cv (af.mk e2.Op (IntKind.i64.wrap (e2.A+(out.nodes.length:Int))) e2.B e2.Table e2.Kinds e2.Left e2.Cond e2.Keys e2.Aggs e2.Items e2.Order e2.Limit))
  else
  (qH out (dT nx i n1 out tl1) cv e2)

def fK:List ba→Nat→af→ba→Option ba
 |[],i,n1,out=>
  (kq out.nodes ([n1])).bind fun l2=>
  some ({out with nodes:=l2}:ba)
 |e1::tl,i,n1,out=>
  (eE e1.nodes).bind fun r=>
  dT (fK tl) i n1 out r out

def eU(n:af)(kinds:(List Int))(l:(List ba)):Option ba:=
 (dw l (0:Int)).bind fun e=>
 fK l 0 (af.mk n.Op (-1:Int) (-1:Int) n.Table n.Kinds n.Left n.Cond n.Keys n.Aggs n.Items n.Order n.Limit) ({(⟨[],kinds,e.at_,[]⟩:ba)with nodes:=([]:List af)}:ba)

def fU(s:ba)(columns:(List Int)):Option ba:=
 some (ba.mk s.nodes s.kinds s.at_ columns)

def jf(p:aO)(n:af)(kinds:(List Int))(l:(List ba)):Option ba:=
 (dw l (0:Int)).bind fun e=>
 (eU n kinds ([e])).bind fun r=>
 (fU r e.hashed).bind fun r1=>
 some r1

def ff(v:Int):List Int→Nat→Option Int
 |[],i=>
  some (-1:Int)
 |e::tl,i=>
  if(v==e)then
  (some (i:Int))
  else
  ((ff v tl) (i+1))

def lK(s:(List Int))(v:Int):Option Int:=
 ff v s 0

def oG(of:(List Int))(among:(List Int)):List Int→(List Int)→Option ((List Int)×Bool)
  |[],out=>
    some (out,decide ((0:Int)<(of.length:Int)))
  |e::tl,out=>
    (lK among e).bind fun r=>
    if(decide (r<(0:Int)))then
    (some ([],false))
    else
    ((kq out ([r])).bind fun cv=>
    (oG of among tl) cv)

def qi(of:(List Int))(among:(List Int)):Option ((List Int)×Bool):=
 oG of among of ([]:List Int)

def cX(n:af)(kinds:(List Int))(l:(List ba)):List bf→Nat→(List Int)→Option ba
  |[],i1,bare=>
    (dw l (0:Int)).bind fun e1=>
    (qi e1.hashed bare).bind fun r=>
    (eU n kinds ([e1])).bind fun r1=>
    (fU r1 r.1).bind fun r2=>
    some r2
  |e::tl,i1,bare=>
    (dw bare (i1:Int)).bind fun e2=>
    (some (bare.set (i1:Int).toNat (-1:Int))).bind fun st=>
    (if((e.Nodes.length:Int)==(1:Int))then((dw e.Nodes (0:Int)).bind fun e3=>
    some (e3.Tag==(2:Int)))else some false).bind fun t=>
    if t then
    ((dw e.Nodes (0:Int)).bind fun e4=>
    (dw st (i1:Int)).bind fun e5=>
    (some (st.set (i1:Int).toNat e4.Col)).bind fun st1=>
    (cX n kinds l tl) (i1+1) st1)
    else
    ((cX n kinds l tl) (i1+1) st)

def iE(p:aO)(n:af)(kinds:(List Int))(l:(List ba)):Option ba:=
 (vU (n.Items.length:Int) (0:Int)).bind fun mk=>
 cX n kinds l n.Items 0 mk

def dE(f:(bq→Option Bool)):List bq→Nat→Option Int
 |[],i=>
  some (-1:Int)
 |e::tl,i=>
  (f e).bind fun r=>
  if r then
  (some (i:Int))
  else
  ((dE f tl) (i+1))

def gZ(s:(List bq))(f:(bq→Option Bool)):Option Int:=
 dE f s 0

def ew(s:(List bq))(f:(bq→Option Bool)):Option Bool:=
 (gZ s f).bind fun r=>
 some (decide ((0:Int)≤r))

def sK(n:bq):Option Bool:=
 (sY n.Tag).bind fun r=>
 some r

def tM(e:bf):Option Bool:=
  (p8 e).bind fun r=>
  (if(r==(0:Int))then((ew e.Nodes sK).bind fun r1=>
  some (!r1))else some false).bind fun t=>
  some t

def qP(nx:(List bf)→(List Int)→Option (List bf))(cv:List bf)(open2:List Int):Option (List bf):=
 nx cv open2

def qO(e3:Int)(nx1:Nat→bf→Option (List bf))(i:Nat)(part1:bf):Option (List bf):=
  (dw part1.Nodes (i:Int)).bind fun e6=>
  if(decide ((0:Int)≤e6.R))then
  ((some (part1.Nodes.set (i:Int).toNat ({e6 with R:=(IntKind.i64.wrap (e6.R-e3))}:bq))).bind fun st=>
  nx1 (i+1) ({part1 with Nodes:=st}:bf))
  else
  (nx1 (i+1) part1)

def kM(nx:(List bf)→(List Int)→Option (List bf))(out:List bf)(y:List Int)(e3:Int):List bq→Nat→bf→Option (List bf)
  |[],i,part=>
    (kq out ([part])).bind fun sT=>
    qP nx sT y
  |e4::tl,i,part=>
    (dw part.Nodes (i:Int)).bind fun e5=>
    if(decide ((0:Int)≤e5.L))then
    ((some (part.Nodes.set (i:Int).toNat ({e5 with L:=(IntKind.i64.wrap (e5.L-e3))}:bq))).bind fun st1=>
    qO e3 (kM nx out y e3 tl) i ({part with Nodes:=st1}:bf))
    else
    (qO e3 (kM nx out y e3 tl) i part)

def ja(e:bf)(r:(List Int)×Bool):Nat→(List bf)→(List Int)→Option (List bf)
  |0,_,_=>none
  |n+1,out,open1=>
    if(decide ((0:Int)<(open1.length:Int)))then
    ((dw open1 (IntKind.i64.wrap ((open1.length:Int)-(1:Int)))).bind fun e1=>
    (fy open1 0 (IntKind.i64.wrap ((open1.length:Int)-(1:Int)))).bind fun y=>
    (dw e.Nodes e1).bind fun e2=>
    if(e2.Tag==(22:Int))then
    ((kq y ([e2.R,e2.L])).bind fun open3=>
    qP (ja e r n) out open3)
    else
    ((dw r.1 e1).bind fun e3=>
    (fy e.Nodes e3 (IntKind.i64.wrap (e1+(1:Int)))).bind fun y1=>
    (cj y1).bind fun r1=>
    kM (ja e r n) out y e3 r1 0 ({(⟨r1⟩:bf)with Nodes:=r1}:bf)))
    else
    (some out)

def vH(e:bf):Option (List bf):=
 (sJ e).bind fun r=>
 if(!r.2)then
 (some ([]:List bf))
 else
 (ja e r cZ ([]:List bf) ([(IntKind.i64.wrap ((e.Nodes.length:Int)-(1:Int)))]))

def yA(e:bf)(left:Int):Option (Int×Int×Bool):=
  (p8 e).bind fun r=>
  (if(!((r !=(0:Int))||((e.Nodes.length:Int) !=(3:Int))))then((dw e.Nodes (2:Int)).bind fun e1=>
  some (e1.Tag !=(16:Int)))else some true).bind fun t=>
  if t then
  (some ((0:Int),(0:Int),false))
  else
  ((dw e.Nodes (0:Int)).bind fun e2=>
  (dw e.Nodes (1:Int)).bind fun e3=>
  if((e2.Tag !=(2:Int))||(e3.Tag !=(2:Int)))then
  (some ((0:Int),(0:Int),false))
  else
  (if((decide (left≤(min e2.Col e3.Col)))||(decide ((max e2.Col e3.Col)<left)))then
  (some ((0:Int),(0:Int),false))
  else
  (some ((min e2.Col e3.Col),(IntKind.i64.wrap ((max e2.Col e3.Col)-left)),true))))

def pE(nx:(List Int)→(List Int)→Option ((List Int)×(List Int)))(a2:List Int)(b1:List Int):Option ((List Int)×(List Int)):=
 nx a2 b1

def kR(left:Int):List bf→(List Int)→(List Int)→Option ((List Int)×(List Int))
  |[],a1,b=>
    some (a1,b)
  |e::tl,a1,b=>
    (yA e left).bind fun r1=>
    if(!r1.2.2)then
    ((tM e).bind fun r2=>
    if(!r2)then
    (some ([],[]))
    else
    (pE (kR left tl) a1 b))
    else
    (if(decide ((a1.length:Int)<(16:Int)))then
    ((kq a1 ([r1.1])).bind fun a3=>
    (kq b ([r1.2.1])).bind fun b3=>
    pE (kR left tl) a3 b3)
    else
    (pE (kR left tl) a1 b))

def wk(cond:bf)(left:Int):Option ((List Int)×(List Int)):=
 (vH cond).bind fun r=>
 kR left r ([]:List Int) ([]:List Int)

def kV(other:(List Int))(r:(List Int)×Bool):List Int→(List Int)→Option ((List Int)×Bool)
 |[],out=>
  some (out,r.2)
 |e::tl,out=>
  (dw other e).bind fun e1=>
  (kq out ([e1])).bind fun cv=>
  (kV other r tl) cv

def jL(of:(List Int))(among:(List Int))(other:(List Int)):Option ((List Int)×Bool):=
 (qi of among).bind fun r=>
 kV other r r.1 ([]:List Int)

def gA(n:af)(kinds:(List Int))(a1:ba)(b2:ba)(ob:aO):Option (ba×aO):=
 (eU n kinds ([a1,b2])).bind fun r7=>
 (fU r7 a1.hashed).bind fun r8=>
 some (r8,ob)

def j5(p:aO)(n:af)(kinds:(List Int))(l:(List ba)):Option (ba×aO):=
  (dw l (0:Int)).bind fun e=>
  (dw l (1:Int)).bind fun e1=>
  if((e.at_==(2:Int))||(e1.at_==(2:Int)))then
  ((dS p e).bind fun r=>
  (dS r.2 e1).bind fun r1=>
  (eU n kinds ([r.1,r1.1])).bind fun r2=>
  some (r2,r1.2))
  else
  ((wk n.Cond (e.kinds.length:Int)).bind fun r3=>
  if((r3.1.length:Int)==(0:Int))then
  ((eg p e1 (2:Int) ([])).bind fun r4=>
  (eU n kinds ([e,r4.1])).bind fun r5=>
  (fU r5 e.hashed).bind fun r6=>
  some (r6,r4.2))
  else
  ((jL e.hashed r3.1 r3.2).bind fun r9=>
  if r9.2 then
  ((fF e1.hashed r9.1).bind fun r10=>
  if(!r10)then
  ((eg p e1 (1:Int) r9.1).bind fun r11=>
  gA n kinds e r11.1 r11.2)
  else
  (gA n kinds e e1 p))
  else
  ((jL e1.hashed r3.2 r3.1).bind fun r12=>
  if r12.2 then
  ((eg p e (1:Int) r12.1).bind fun r13=>
  gA n kinds r13.1 e1 r13.2)
  else
  ((eg p e (1:Int) r3.1).bind fun r14=>
  (eg r14.2 e1 (1:Int) r3.2).bind fun r15=>
  gA n kinds r14.1 r15.1 r15.2))))

def o4(n:Int):Nat→(List Int)→Int→Option (List Int)
  |0,_,_=>none
  |n1+1,out,x=>
    if(decide (x<n))then
    ((kq out ([x])).bind fun cv=>
    (o4 n n1) cv (IntKind.i64.wrap (x+(1:Int))))
    else
    (some out)

def tJ(n:Int):Option (List Int):=
 o4 n cZ ([]:List Int) (0:Int)

def kj(n:af):List ip→Nat→(List Int)→Option (List Int)
  |[],i,out=>
    some out
  |e::tl,i,out=>
    if(e.Tag==(3:Int))then
    ((dw out (IntKind.i64.wrap ((n.Keys.length:Int)+(i:Int)))).bind fun e1=>
    (some (out.set (IntKind.i64.wrap ((n.Keys.length:Int)+(i:Int))).toNat (4:Int))).bind fun st=>
    (kj n tl) (i+1) st)
    else
    ((kj n tl) (i+1) out)

def qF(n:af)(kinds:(List Int)):Option (List Int):=
 (cr kinds).bind fun r=>
 kj n n.Aggs 0 r

def eZ(kinds:(List Int))(r4:(List Int))(r7:ba×aO):List ip→af→Option (ba×aO)
 |[],last=>
  (eU last kinds ([r7.1])).bind fun r8=>
  (fU r8 r4).bind fun r9=>
  some (r9,r7.2)
 |e1::tl,last=>
  (kq last.Aggs ([(⟨e1.Tag,(⟨[]⟩:bf)⟩:ip)])).bind fun l3=>
  (eZ kinds r4 r7 tl) ({last with Aggs:=l3}:af)

def jq(p:aO)(n:af)(kinds:(List Int))(e:ba)(r4:(List Int))(way:Int):Option (ba×aO):=
 (qF (af.mk (10:Int) n.A n.B n.Table n.Kinds n.Left n.Cond n.Keys n.Aggs n.Items n.Order n.Limit) kinds).bind fun r5=>
 (eU (af.mk (10:Int) n.A n.B n.Table n.Kinds n.Left n.Cond n.Keys n.Aggs n.Items n.Order n.Limit) r5 ([e])).bind fun r6=>
 (eg p r6 way r4).bind fun r7=>
 eZ kinds r4 r7 n.Aggs ({(⟨(11:Int),(0:Int),(0:Int),(0:Int),[],false,(⟨[]⟩:bf),r4,[],[],[],(0:Int)⟩:af)with Aggs:=([]:List ip)}:af)

def jy(p:aO)(n:af)(kinds:(List Int))(l:(List ba)):Option (ba×aO):=
  (dw l (0:Int)).bind fun e=>
  if(e.at_==(2:Int))then
  ((eU n kinds ([e])).bind fun r=>
  some (r,p))
  else
  ((qi e.hashed n.Keys).bind fun r1=>
  if r1.2 then
  ((eU n kinds ([e])).bind fun r2=>
  (fU r2 r1.1).bind fun r3=>
  some (r3,p))
  else
  ((tJ (n.Keys.length:Int)).bind fun r4=>
  if((r4.length:Int)==(0:Int))then
  (jq p n kinds e r4 (3:Int))
  else
  (jq p n kinds e r4 (1:Int))))

def ii(p:aO)(n:af)(kinds:(List Int))(l:(List ba)):Option (ba×aO):=
  (dw l (0:Int)).bind fun e=>
  if((e.at_==(2:Int))||(decide ((0:Int)<(e.hashed.length:Int))))then
  ((eU n kinds ([e])).bind fun r=>
  (fU r e.hashed).bind fun r1=>
  some (r1,p))
  else
  ((tJ (kinds.length:Int)).bind fun r2=>
  (eg p e (1:Int) r2).bind fun r3=>
  (eU n kinds ([r3.1])).bind fun r4=>
  (fU r4 r2).bind fun r5=>
  some (r5,r3.2))

def nY(ob:aO)(out:ba):Option (ba×aO):=
 some (out,ob)

def gc(n:af)(kinds:(List Int))(a1:ba)(b2:ba)(ob:aO):Option (ba×aO):=
  (eU n kinds ([a1,b2])).bind fun r=>
  (if(a1.at_==(1:Int))then((fF a1.hashed b2.hashed).bind fun r1=>
  some r1)else some false).bind fun t=>
  if t then
  (nY ob (ba.mk r.nodes r.kinds r.at_ a1.hashed))
  else
  (nY ob r)

def jw(p:aO)(n:af)(kinds:(List Int))(l:(List ba)):Option (ba×aO):=
  (dw l (0:Int)).bind fun e=>
  (dw l (1:Int)).bind fun e1=>
  if(e.at_ !=e1.at_)then
  ((dS p e).bind fun r2=>
  (dS r2.2 e1).bind fun r3=>
  gc n kinds r2.1 r3.1 r3.2)
  else
  (gc n kinds e e1 p)

def jx(p:aO)(n:af)(kinds:(List Int))(l:(List ba)):Option (ba×aO):=
  (dw l (0:Int)).bind fun e=>
  (eU n kinds ([e])).bind fun r=>
  if(r.at_==(2:Int))then
  (some (r,p))
  else
  ((dS p r).bind fun r1=>
  (eU n kinds ([r1.1])).bind fun r2=>
  some (r2,r1.2))

def cL(self__:aO→Int→Option (ba×aO))(at1:Int)(e:af):Nat→Nat→(List ba)→aO→Option (ba×aO)
  |0,i,parts,ob=>
    (dw ob.kinds at1).bind fun e2=>
    (((sU (fQ (fQ (fQ (fQ (fQ (fQ (fQ (fQ ([]:List (Int×(aO→(af×(List Int)×(List ba))→Option (ba×aO)))) (1:Int) (fun(mc:aO) (mx:af×(List Int)×(List ba))=>(j4 mc mx.1 mx.2.1 mx.2.2).map fun mr=>(mr,mc))) (3:Int) (fun(mc:aO) (mx:af×(List Int)×(List ba))=>(jf mc mx.1 mx.2.1 mx.2.2).map fun mr=>(mr,mc))) (5:Int) (fun(mc:aO) (mx:af×(List Int)×(List ba))=>(iE mc mx.1 mx.2.1 mx.2.2).map fun mr=>(mr,mc))) (2:Int) (fun(mc:aO) (mx:af×(List Int)×(List ba))=>j5 mc mx.1 mx.2.1 mx.2.2)) (4:Int) (fun(mc:aO) (mx:af×(List Int)×(List ba))=>jy mc mx.1 mx.2.1 mx.2.2)) (6:Int) (fun(mc:aO) (mx:af×(List Int)×(List ba))=>ii mc mx.1 mx.2.1 mx.2.2)) (7:Int) (fun(mc:aO) (mx:af×(List Int)×(List ba))=>jw mc mx.1 mx.2.1 mx.2.2)) (8:Int) (fun(mc:aO) (mx:af×(List Int)×(List ba))=>jx mc mx.1 mx.2.1 mx.2.2)) e.Op).getD (fun _ _=>none)) ob (e,e2,parts)).bind fun r=>
    some (r.1,r.2)
  |k1+1,i,parts,ob=>
    (dw ([e.A,e.B]) (i:Int)).bind fun e3=>
    if(decide ((0:Int)≤e3))then
    ((self__ ob e3).bind fun r1=>
    (kq parts ([r1.1])).bind fun parts1=>
    (cL self__ at1 e k1) (i+1) parts1 r1.2)
    else
    ((cL self__ at1 e k1) (i+1) parts ob)

def dZ:Nat→aO→Int→Option (ba×aO)
 |0,_,_=>none
 |fu+1,p,at1=>
  (dw p.tree.Nodes at1).bind fun e=>
  cL (dZ fu) at1 e 2 0 ([]:List ba) p

def qE(p:aO)(at1:Int):Option (ba×aO):=
 dZ cZ p at1

def qj(f:bK):Option Bool:=
 some (decide ((60:Int)<(f.Nodes.length:Int)))

def dQ(f:(bK→Option Bool)):List bK→Nat→Option Int
 |[],i=>
  some (-1:Int)
 |e::tl,i=>
  (f e).bind fun r=>
  if r then
  (some (i:Int))
  else
  ((dQ f tl) (i+1))

def iu(s:(List bK))(f:(bK→Option Bool)):Option Int:=
 dQ f s 0

def eT(s:(List bK))(f:(bK→Option Bool)):Option Bool:=
 (iu s f).bind fun r=>
 some (decide ((0:Int)≤r))

def lQ(l:bR):List af→Nat→aO→Option (dp×Int)
  |[],i,ob=>
    (qE ob (IntKind.i64.wrap ((l.Nodes.length:Int)-(1:Int)))).bind fun r3=>
    (dS r3.2 r3.1).bind fun r4=>
    (kq r4.2.Plan.Frags ([(⟨r4.1.nodes,(2:Int),(4:Int),[]⟩:bK)])).bind fun l3=>
    (if(!(decide ((30:Int)<(l3.length:Int))))then((eT l3 qj).bind fun r5=>
    some r5)else some true).bind fun t=>
    if t then
    (some ((⟨[]⟩:dp),(3:Int)))
    else
    (some (({r4.2 with Plan:=({r4.2.Plan with Frags:=l3}:dp)}:aO).Plan,(0:Int)))
  |e::tl,i,ob=>
    (wo l (i:Int)).bind fun r6=>
    (sE r6.1).bind fun r7=>
    (kq ob.kinds ([r7.1])).bind fun l4=>
    (lQ l tl) (i+1) ({ob with kinds:=l4}:aO)

def qk(l:bR)(c:ce):Option (dp×Int):=
  (uR l).bind fun r=>
  if(r.2 !=(0:Int))then
  (some ((⟨[]⟩:dp),r.2))
  else
  ((rX c).bind fun r1=>
  if(r1 !=(0:Int))then
  (some ((⟨[]⟩:dp),r1))
  else
  ((zC l c).bind fun r2=>
  if(!r2)then
  (some ((⟨[]⟩:dp),(2:Int)))
  else
  (lQ l l.Nodes 0 (⟨(⟨[]⟩:dp),l,c,[]⟩:aO))))

def DX(p:dp)(frag:Int)(nodes:Int):Option Int:=
 if(((((decide ((30:Int)<(p.Frags.length:Int)))||(decide (frag<(0:Int))))||(decide ((p.Frags.length:Int)≤frag)))||(decide (nodes<(1:Int))))||(decide ((8:Int)<nodes)))then
 (some (2:Int))
 else
 (some (0:Int))

def oZ{Sg:Type}(from1:Int)(yld:(Int×Int)→Sg→Option (Bool×Sg))(nx:Nat→Sg→Option Sg)(i:Nat):List af→Nat→Sg→Option Sg
  |[],i1,s2=>
    nx (i+1) s2
  |e4::tl1,i1,s2=>
    if((e4.Op==(9:Int))&&(e4.Table==from1))then
    ((yld ((i:Int),(i1:Int)) s2).bind fun r=>
    if(!r.1)then
    (some r.2)
    else
    ((oZ from1 yld nx i tl1) (i1+1) r.2))
    else
    ((oZ from1 yld nx i tl1) (i1+1) s2)

def o0{Sg:Type}(from1:Int)(yld:(Int×Int)→Sg→Option (Bool×Sg)):List bK→Nat→Sg→Option Sg
 |[],i,s1=>
  some s1
 |e2::tl,i,s1=>
  oZ from1 yld (o0 from1 yld tl) i e2.Nodes 0 s1

def vi{Sg:Type}(p:dp)(from1:Int)(yld:(Int×Int)→Sg→Option (Bool×Sg))(s:Sg):Option Sg:=
 o0 from1 yld p.Frags 0 s

def Cb(p:dp)(from1:Int):Option (It (Int×Int)):=
 some (fun _=>vi p from1)

def xB(x:Int×Int)(x1:Bool)(x2:Int)(x3:Int):Option (Option Nat×(Bool×Int×Int)):=
 some (some 0,(true,x.2,x.1))

def Cc(p:dp)(from1:Int):Option (Int×Int×Bool):=
 (Cb p from1).bind fun it=>
 ((itU it) (Option Nat×(Bool×Int×Int)) (y8 (fun x s=>xB x s.1 s.2.1 s.2.2)) (none,(false,(0:Int),(0:Int)))).bind fun r=>
 if r.1.1.isNone then
 (some ((0:Int),(0:Int),false))
 else
 (some (r.1.2.2.2,r.1.2.2.1,r.1.2.1))

def Cd(p:dp)(frag:Int):Option Int:=
 (Cc p frag).bind fun r=>
 if r.2.2 then
 (some r.1)
 else
 (some (-1:Int))

def zB(f:bK)(nodes:Int):Option (List Int):=
  if(f.At==(2:Int))then
  (some ([(0:Int)]))
  else
  ((tJ (IntKind.i64.wrap (nodes+(1:Int)))).bind fun r=>
  (fy r (1:Int) (r.length:Int)).bind fun y=>
  some y)

def vk{Sg:Type}(nx:Nat→Sg→Option Sg)(i:Nat)(s2:Sg):Option Sg:=
 nx (i+1) s2

def vj{Sg:Type}(yld:(ep×Int)→Sg→Option (Bool×Sg))(i:Nat)(r:Int)(nx1:Sg→Option Sg)(e5:Int):List Int→Sg→Option Sg
 |[],s4=>
  nx1 s4
 |e8::tl2,s4=>
  (yld ((⟨(i:Int),e5,e8⟩:ep),r) s4).bind fun r3=>
  if(!r3.1)then
  (some r3.2)
  else
  ((vj yld i r nx1 e5 tl2) r3.2)

def rO{Sg:Type}(p:dp)(nodes:Int)(yld:(ep×Int)→Sg→Option (Bool×Sg))(nx:Nat→Sg→Option Sg)(i:Nat)(r:Int):List Int→Sg→Option Sg
 |[],s3=>
  vk nx i s3
 |e5::tl1,s3=>
  (dw p.Frags r).bind fun e6=>
  (zB e6 nodes).bind fun r2=>
  vj yld i r (rO p nodes yld nx i r tl1) e5 r2 s3

def mj{Sg:Type}(p:dp)(nodes:Int)(yld:(ep×Int)→Sg→Option (Bool×Sg)):List bK→Nat→Sg→Option Sg
  |[],i,s1=>
    some s1
  |e2::tl,i,s1=>
    (Cd p (i:Int)).bind fun r=>
    if(decide (r<(0:Int)))then
    (vk (mj p nodes yld tl) i s1)
    else
    ((zB e2 nodes).bind fun r1=>
    rO p nodes yld (mj p nodes yld tl) i r r1 s1)

def zD{Sg:Type}(p:dp)(nodes:Int)(yld:(ep×Int)→Sg→Option (Bool×Sg))(s:Sg):Option Sg:=
 mj p nodes yld p.Frags 0 s

def Ip(p:dp)(nodes:Int):Option (It (ep×Int)):=
 some (fun _=>zD p nodes)

def Ar(holds:(ep→Int→Option Bool))(x:ep×Int)(xs:List ep):Option (List ep):=
  (holds x.1 x.2).bind fun r=>
  if r then
  ((kq xs ([x.1])).bind fun l1=>
  some l1)
  else
  (some xs)

def FG(p:dp)(nodes:Int)(holds:(ep→Int→Option Bool)):Option (List ep):=
 (Ip p nodes).bind fun it=>
 (it (List ep) (Jh (fun x s=>Ar holds x s)) ([]:List ep)).bind fun xs1=>
 some xs1

def xC(p:ep)(p1:Int):Option Bool:=
 some true

def As(p:dp)(nodes:Int):Option ((List ep)×Int):=
  (DX p (0:Int) nodes).bind fun r=>
  if(r !=(0:Int))then
  (some ([],r))
  else
  ((FG p nodes xC).bind fun r1=>
  some (r1,(0:Int)))

def Cj:Option ce:=
 some (⟨[(⟨[116],[(⟨[97],(2:Int)⟩:bT),(⟨[98],(2:Int)⟩:bT)],[(0:Int)]⟩:ca),(⟨[117],[(⟨[99],(2:Int)⟩:bT)],[]⟩:ca)]⟩:ce)

def xK:Option Bool:=
  (Cj).bind fun r=>
  (qk (⟨[(⟨(1:Int),(-1:Int),(-1:Int),(1:Int),[(2:Int)],false,(⟨[]⟩:bf),[],[],[],[],(0:Int)⟩:af),(⟨(4:Int),(0:Int),(-1:Int),(0:Int),[],false,(⟨[]⟩:bf),[],[(⟨(1:Int),(⟨[]⟩:bf)⟩:ip)],[],[],(0:Int)⟩:af)]⟩:bR) r).bind fun r1=>
  (As r1.1 (3:Int)).bind fun r2=>
  (if(((r1.2==(0:Int))&&(r2.2==(0:Int)))&&((r1.1.Frags.length:Int)==(2:Int)))then((dw r1.1.Frags (0:Int)).bind fun e=>
  some ((e.Nodes.length:Int)==(2:Int)))else some false).bind fun t=>
  (if t then((dw r1.1.Frags (0:Int)).bind fun e1=>
  (dw e1.Nodes (1:Int)).bind fun e2=>
  some (e2.Op==(10:Int)))else some false).bind fun t1=>
  some (t1&&((r2.1.length:Int)==(3:Int)))

def lV:List bq→Option Bool
 |[]=>
  some false
 |e1::tl=>
  if(decide ((200:Int)<(e1.Value.S.length:Int)))then
  (some true)
  else
  ((lV tl))

def mT(e:bf):Option Bool:=
 if(decide ((100:Int)<(e.Nodes.length:Int)))then
 (some true)
 else
 (lV e.Nodes)

def pI(nx:Option Bool):List ip→Option Bool
 |[]=>
  nx
 |e2::tl2=>
  (mT e2.Arg).bind fun r1=>
  if r1 then
  (some true)
  else
  ((pI nx tl2))

def pJ(nx:Option Bool)(e:af):List bf→Option Bool
 |[]=>
  pI nx e.Aggs
 |e1::tl1=>
  (mT e1).bind fun r2=>
  if r2 then
  (some true)
  else
  ((pJ nx e tl1))

def kS:List af→Option Bool
  |[]=>
    some false
  |e::tl=>
    (if(!(((((decide ((20:Int)<(e.Kinds.length:Int)))||(decide ((20:Int)<(e.Keys.length:Int))))||(decide ((20:Int)<(e.Order.length:Int))))||(decide ((20:Int)<(e.Items.length:Int))))||(decide ((20:Int)<(e.Aggs.length:Int)))))then((mT e.Cond).bind fun r=>
    some r)else some true).bind fun t=>
    if t then
    (some true)
    else
    (pJ (kS tl) e e.Items)

def wr(l:(List af)):Option Bool:=
 if(decide ((65:Int)<(l.length:Int)))then
 (some true)
 else
 (kS l)

def CI(p:dp)(frag:Int)(nx:Int→Option Int)(i:Int):Nat→Int→Option Int
  |0,_=>none
  |n1+1,k=>
    (dw p.Frags i).bind fun e=>
    if(decide (k<(e.Nodes.length:Int)))then
    ((dw e.Nodes k).bind fun e1=>
    if((e1.Op==(9:Int))&&(e1.Table==frag))then
    (some i)
    else
    ((CI p frag nx i n1) (IntKind.i64.wrap (k+(1:Int)))))
    else
    (nx (IntKind.i64.wrap (i+(1:Int))))

def ia(b:(List Int)):List Int→Nat→Option Bool
 |[],i=>
  some true
 |e::tl,i=>
  (dw b (i:Int)).bind fun e1=>
  if(e !=e1)then
  (some false)
  else
  ((ia b tl) (i+1))

def eH(a1:(List Int))(b:(List Int)):Option Bool:=
 if((a1.length:Int) !=(b.length:Int))then
 (some false)
 else
 (ia b a1 0)

def jg(nx:Option Bool):List bT→Option Bool
 |[]=>
  nx
 |e1::tl1=>
  if(decide ((60:Int)<(e1.Name.length:Int)))then
  (some true)
  else
  ((jg nx tl1))

def hX:List ca→Option Bool
 |[]=>
  some false
 |e::tl=>
  if(((decide ((10:Int)<(e.Columns.length:Int)))||(decide ((10:Int)<(e.Keys.length:Int))))||(decide ((60:Int)<(e.Name.length:Int))))then
  (some true)
  else
  (jg (hX tl) e.Columns)

def o9(c:ce):Option Bool:=
 if(decide ((10:Int)<(c.Tables.length:Int)))then
 (some true)
 else
 (hX c.Tables)

def lc(x1:Bool):Option Int:=
 if x1 then
 (some (1:Int))
 else
 (some (-1:Int))

def qz(op:Int)(x:Bool):Option Int:=
  if x then
  (some (2:Int))
  else
  (if(op==(3:Int))then
  (lc (op==(3:Int)))
  else
  (if(op==(4:Int))then
  (lc (op==(4:Int)))
  else
  (if(op==(5:Int))then
  (lc (op==(5:Int)))
  else
  (if(op==(6:Int))then
  (lc (op==(6:Int)))
  else
  (lc (op==(8:Int)))))))

def uG(op:Int):Option Int:=
  if(op==(1:Int))then
  (some (0:Int))
  else
  (if(op==(2:Int))then
  (qz op (op==(2:Int)))
  else
  (qz op (op==(7:Int))))

def cI:Nat→bR→Int→Option Int
  |0,_,_=>none
  |fu+1,l,at1=>
    if((decide (at1<(0:Int)))||(decide ((l.Nodes.length:Int)≤at1)))then
    (some (0:Int))
    else
    ((dw l.Nodes at1).bind fun e=>
    (uG e.Op).bind fun r=>
    if(r==(0:Int))then
    (if((e.A==(-1:Int))&&(e.B==(-1:Int)))then
    (some (1:Int))
    else
    (some (0:Int)))
    else
    (if(r==(1:Int))then
    (if((e.A==(IntKind.i64.wrap (at1-(1:Int))))&&(e.B==(-1:Int)))then
    (((cI fu) l e.A).bind fun r1=>
    if(decide ((0:Int)<r1))then
    (some (IntKind.i64.wrap (r1+(1:Int))))
    else
    (some (0:Int)))
    else
    (some (0:Int)))
    else
    (if(r==(2:Int))then
    (if(e.B==(IntKind.i64.wrap (at1-(1:Int))))then
    (((cI fu) l e.B).bind fun r2=>
    if((decide ((0:Int)<r2))&&(e.A==(IntKind.i64.wrap (e.B-r2))))then
    (((cI fu) l e.A).bind fun r3=>
    if(decide ((0:Int)<r3))then
    (some (IntKind.i64.wrap ((IntKind.i64.wrap (r3+r2))+(1:Int))))
    else
    (some (0:Int)))
    else
    (some (0:Int)))
    else
    (some (0:Int)))
    else
    (some (0:Int)))))

def kh(l:bR)(at1:Int):Option Int:=
 cI cZ l at1

def rd(n:af):Option Bool:=
  if((n.Op !=(1:Int))&&((n.Table !=(0:Int))||(decide ((0:Int)<(n.Kinds.length:Int)))))then
  (some false)
  else
  (if(((n.Op !=(2:Int))&&n.Left)||(((n.Op !=(2:Int))&&(n.Op !=(3:Int)))&&(decide ((0:Int)<(n.Cond.Nodes.length:Int)))))then
  (some false)
  else
  (if(((n.Op !=(4:Int))&&((decide ((0:Int)<(n.Keys.length:Int)))||(decide ((0:Int)<(n.Aggs.length:Int)))))||((n.Op !=(5:Int))&&(decide ((0:Int)<(n.Items.length:Int)))))then
  (some false)
  else
  (some ((n.Op==(8:Int))||(((n.Order.length:Int)==(0:Int))&&(n.Limit==(0:Int)))))))

def xy(tag:Int):Option Int:=
  if((decide (tag<(1:Int)))||(decide ((23:Int)<tag)))then
  (some (-1:Int))
  else
  (if(decide (tag≤(3:Int)))then
  (some (0:Int))
  else
  (if(decide (tag≤(11:Int)))then
  (some (1:Int))
  else
  (some (2:Int))))

def uJ(tag:Int):Option Int:=
  if((tag==(3:Int))||((decide ((8:Int)≤tag))&&(decide (tag≤(11:Int)))))then
  (some (-1:Int))
  else
  ((xy tag).bind fun r=>
  some r)

def oF(v:df):Option Bool:=
  if(v.Kind==(0:Int))then
  (some (decide (v=(⟨(0:Int),(0:Int),(0:Int),[]⟩:df))))
  else
  (if(v.Kind==(1:Int))then
  (some (((v.U==(0:Int))&&(v.S==([])))&&((v.N==(0:Int))||(v.N==(1:Int)))))
  else
  (if(v.Kind==(2:Int))then
  (some ((v.U==(0:Int))&&(v.S==([]))))
  else
  (if(v.Kind==(3:Int))then
  (some (((v.N==(0:Int))&&(v.U==(0:Int)))&&(decide ((v.S.length:Int)≤(40:Int)))))
  else
  (some ((v.Kind==(4:Int))&&(v.S==([])))))))

def uL(v:df):Option Bool:=
 (oF v).bind fun r=>
 some (r&&(v.Kind !=(4:Int)))

def lN(n:bq):Option Bool:=
  if(n.Tag==(1:Int))then
  ((uL n.Value).bind fun r=>
  some (r&&(n.Col==(0:Int))))
  else
  (if(n.Tag==(2:Int))then
  (some (((decide (n.Value=(⟨(0:Int),(0:Int),(0:Int),[]⟩:df)))&&(decide ((0:Int)≤n.Col)))&&(decide (n.Col<(16:Int)))))
  else
  (some ((decide (n.Value=(⟨(0:Int),(0:Int),(0:Int),[]⟩:df)))&&(n.Col==(0:Int)))))

def i8:Nat→bf→Int→Option Int
  |0,_,_=>none
  |fu+1,e,place=>
    if((decide (place<(0:Int)))||(decide ((e.Nodes.length:Int)≤place)))then
    (some (0:Int))
    else
    ((dw e.Nodes place).bind fun e1=>
    (uJ e1.Tag).bind fun r=>
    (if(!(decide (r<(0:Int))))then((lN e1).bind fun r1=>
    some (!r1))else some true).bind fun t=>
    if t then
    (some (0:Int))
    else
    (if(r==(0:Int))then
    (if((e1.L !=(-1:Int))||(e1.R !=(-1:Int)))then
    (some (0:Int))
    else
    (some (1:Int)))
    else
    (((i8 fu) e (IntKind.i64.wrap (place-(1:Int)))).bind fun r2=>
    if(r2==(0:Int))then
    (some (0:Int))
    else
    (if(r==(1:Int))then
    (if((e1.L !=(IntKind.i64.wrap (place-(1:Int))))||(e1.R !=(-1:Int)))then
    (some (0:Int))
    else
    (some (IntKind.i64.wrap (r2+(1:Int)))))
    else
    (((i8 fu) e (IntKind.i64.wrap ((IntKind.i64.wrap (place-(1:Int)))-r2))).bind fun r3=>
    if(((r3==(0:Int))||(e1.R !=(IntKind.i64.wrap (place-(1:Int)))))||(e1.L !=(IntKind.i64.wrap ((IntKind.i64.wrap (place-(1:Int)))-r2))))then
    (some (0:Int))
    else
    (some (IntKind.i64.wrap ((IntKind.i64.wrap (r3+r2))+(1:Int)))))))))

def t6(e:bf)(place:Int):Option Int:=
 i8 cZ e place

def uI(e:bf):Option Bool:=
  (if((decide ((1:Int)≤(e.Nodes.length:Int)))&&(decide ((e.Nodes.length:Int)≤(1000:Int))))then((t6 e (IntKind.i64.wrap ((e.Nodes.length:Int)-(1:Int)))).bind fun r=>
  some (r==(e.Nodes.length:Int)))else some false).bind fun t=>
  some t

def pY(k:Int)(want:Int):Option Bool:=
 some ((k==want)||(k==(0:Int)))

def re(tag:Int)(l:Int)(r:Int):Option (Int×Bool):=
  if((tag==(4:Int))||((decide ((12:Int)≤tag))&&(decide (tag≤(15:Int)))))then
  ((pY l (2:Int)).bind fun r1=>
  (if r1 then((pY r (2:Int)).bind fun r2=>
  some r2)else some false).bind fun t=>
  some ((2:Int),t))
  else
  (if((tag==(5:Int))||(decide ((22:Int)≤tag)))then
  ((pY l (1:Int)).bind fun r3=>
  (if r3 then((pY r (1:Int)).bind fun r4=>
  some r4)else some false).bind fun t1=>
  some ((1:Int),t1))
  else
  (if((tag==(6:Int))||(tag==(7:Int)))then
  (some ((1:Int),true))
  else
  (some ((1:Int),(((l==r)||(l==(0:Int)))||(r==(0:Int)))))))

def pC(nx2:(List Int)→Option (Int×Int))(e3:bq)(own:List Int)(e6:Int)(r1:Int):Option (Int×Int):=
  (re e3.Tag e6 r1).bind fun r2=>
  if(!r2.2)then
  (some ((0:Int),(201:Int)))
  else
  ((kq own ([r2.1])).bind fun own3=>
  nx2 own3)

def dv(kinds:(List Int)):List bq→(List Int)→Option (Int×Int)
  |[],own=>
    (dw own (IntKind.i64.wrap ((own.length:Int)-(1:Int)))).bind fun e4=>
    some (e4,(0:Int))
  |e3::tl2,own=>
    if(e3.Tag==(1:Int))then
    ((kq own ([e3.Value.Kind])).bind fun own1=>
    (dv kinds tl2) own1)
    else
    (if(e3.Tag==(2:Int))then
    ((dw kinds e3.Col).bind fun e5=>
    (kq own ([e5])).bind fun own2=>
    (dv kinds tl2) own2)
    else
    ((dw own e3.L).bind fun e6=>
    if(decide ((0:Int)≤e3.R))then
    ((dw own e3.R).bind fun e7=>
    pC (dv kinds tl2) e3 own e6 e7)
    else
    (pC (dv kinds tl2) e3 own e6 (0:Int))))

def nP(e:bf)(kinds:(List Int)):List bq→Option (Int×Int)
 |[]=>
  dv kinds e.Nodes ([]:List Int)
 |e2::tl1=>
  if((e2.Tag==(2:Int))&&(decide ((kinds.length:Int)≤e2.Col)))then
  (some ((0:Int),(2:Int)))
  else
  ((nP e kinds tl1))

def pB(e:bf)(kinds:(List Int)):List Int→Option (Int×Int)
 |[]=>
  nP e kinds e.Nodes
 |e1::tl=>
  if((decide (e1<(0:Int)))||(decide ((3:Int)<e1)))then
  (some ((0:Int),(2:Int)))
  else
  ((pB e kinds tl))

def ri(e:bf)(kinds:(List Int)):Option (Int×Int):=
 (uI e).bind fun r=>
 if(!r)then
 (some ((0:Int),(200:Int)))
 else
 (pB e kinds kinds)

def sq(e:bf)(kinds:(List Int)):Option Bool:=
 (ri e kinds).bind fun r=>
 some ((r.2==(0:Int))&&((r.1==(0:Int))||(r.1==(1:Int))))

def lE(a1:ip)(kinds:(List Int)):Option (Int×Bool):=
  if(a1.Tag==(1:Int))then
  (some ((2:Int),((a1.Arg.Nodes.length:Int)==(0:Int))))
  else
  ((ri a1.Arg kinds).bind fun r=>
  if(((decide (a1.Tag<(1:Int)))||(decide ((5:Int)<a1.Tag)))||(r.2 !=(0:Int)))then
  (some ((0:Int),false))
  else
  (if(((a1.Tag==(3:Int))&&(r.1 !=(2:Int)))&&(r.1 !=(0:Int)))then
  (some ((0:Int),false))
  else
  (if(decide ((4:Int)≤a1.Tag))then
  (some (r.1,true))
  else
  (some ((2:Int),true)))))

def fT(n:af):Nat→Bool→Int→Option ((List Int)×Bool)
  |0,_,_=>none
  |n1+1,ok,i=>
    if(decide (i<(n.Kinds.length:Int)))then
    ((if ok then((dw n.Kinds i).bind fun e=>
    some (decide ((1:Int)≤e)))else some false).bind fun t=>
    (if t then((dw n.Kinds i).bind fun e1=>
    some (decide (e1≤(3:Int))))else some false).bind fun t1=>
    (fT n n1) t1 (IntKind.i64.wrap (i+(1:Int))))
    else
    (some (n.Kinds,((((ok&&(decide ((0:Int)≤n.Table)))&&(decide (n.Table≤(3:Int))))&&(decide ((1:Int)≤(n.Kinds.length:Int))))&&(decide ((n.Kinds.length:Int)≤(4:Int))))))

def dK(n:af)(a1:(List Int)):Nat→(List Int)→Bool→Int→Option ((List Int)×Bool)
  |0,_,_,_=>none
  |n3+1,out3,ok1,i2=>
    if(decide (i2<(n.Aggs.length:Int)))then
    ((dw n.Aggs i2).bind fun e4=>
    (lE e4 a1).bind fun r2=>
    (kq out3 ([r2.1])).bind fun out4=>
    (dK n a1 n3) out4 (ok1&&r2.2) (IntKind.i64.wrap (i2+(1:Int))))
    else
    (some (out3,(((ok1&&(decide ((n.Keys.length:Int)≤(3:Int))))&&(decide ((n.Aggs.length:Int)≤(12:Int))))&&(decide ((0:Int)<(out3.length:Int))))))

def dY(n:af)(a1:(List Int)):Nat→(List Int)→Int→Option ((List Int)×Bool)
  |0,_,_=>none
  |n2+1,cv,i1=>
    if(decide (i1<(n.Keys.length:Int)))then
    ((dw n.Keys i1).bind fun e2=>
    if((decide (e2<(0:Int)))||(decide ((a1.length:Int)≤e2)))then
    (some ([],false))
    else
    ((dw a1 e2).bind fun e3=>
    (kq cv ([e3])).bind fun sT=>
    (dY n a1 n2) sT (IntKind.i64.wrap (i1+(1:Int)))))
    else
    (dK n a1 cZ cv true (0:Int))

def fi(n:af)(a1:(List Int)):Nat→(List Int)→Bool→Int→Option ((List Int)×Bool)
  |0,_,_,_=>none
  |n4+1,out5,ok2,i3=>
    if(decide (i3<(n.Items.length:Int)))then
    ((dw n.Items i3).bind fun e5=>
    (ri e5 a1).bind fun r3=>
    (kq out5 ([r3.1])).bind fun out6=>
    (fi n a1 n4) out6 (ok2&&(r3.2==(0:Int))) (IntKind.i64.wrap (i3+(1:Int))))
    else
    (some (out5,((ok2&&(decide ((1:Int)≤(out5.length:Int))))&&(decide ((out5.length:Int)≤(16:Int))))))

def oC(b:(List Int))(nx4:Nat→(List Int)→Bool→Option ((List Int)×Bool))(i4:Nat)(out7:List Int)(ok3:Bool)(k:Int):Option ((List Int)×Bool):=
  (kq out7 ([k])).bind fun out8=>
  (if ok3 then((dw b (i4:Int)).bind fun e7=>
  (if(!(e7==k))then((dw b (i4:Int)).bind fun e8=>
  some (e8==(0:Int)))else some true).bind fun t3=>
  some t3)else some false).bind fun t2=>
  nx4 (i4+1) out8 t2

def i7(b:(List Int)):List Int→Nat→(List Int)→Bool→Option ((List Int)×Bool)
  |[],i4,out7,ok3=>
    some (out7,ok3)
  |e6::tl,i4,out7,ok3=>
    if(e6==(0:Int))then
    ((dw b (i4:Int)).bind fun e9=>
    oC b (i7 b tl) i4 out7 ok3 e9)
    else
    (oC b (i7 b tl) i4 out7 ok3 e6)

def fS(n:af)(a1:(List Int)):Nat→Bool→Int→Option ((List Int)×Bool)
  |0,_,_=>none
  |n5+1,ok4,i5=>
    if(decide (i5<(n.Order.length:Int)))then
    ((if ok4 then((dw n.Order i5).bind fun e10=>
    some (decide ((0:Int)≤e10.Col)))else some false).bind fun t4=>
    (if t4 then((dw n.Order i5).bind fun e11=>
    some (decide (e11.Col<(a1.length:Int))))else some false).bind fun t5=>
    (fS n a1 n5) t5 (IntKind.i64.wrap (i5+(1:Int))))
    else
    (some (a1,(((ok4&&(decide ((n.Order.length:Int)≤(3:Int))))&&(decide ((-1:Int)≤n.Limit)))&&(decide (n.Limit≤(2147483647:Int))))))

def cu(n:af)(a1:(List Int))(b:(List Int)):Option ((List Int)×Bool):=
  if(n.Op==(1:Int))then
  (fT n cZ true (0:Int))
  else
  (if(n.Op==(2:Int))then
  ((kq ([]:List Int) a1).bind fun l=>
  (kq l b).bind fun out=>
  (sq n.Cond out).bind fun r=>
  some (out,r))
  else
  (if(n.Op==(3:Int))then
  ((sq n.Cond a1).bind fun r1=>
  some (a1,r1))
  else
  (if(n.Op==(4:Int))then
  (dY n a1 cZ ([]:List Int) (0:Int))
  else
  (if(n.Op==(5:Int))then
  (fi n a1 cZ ([]:List Int) true (0:Int))
  else
  (if(n.Op==(6:Int))then
  (some (a1,true))
  else
  (if(n.Op==(7:Int))then
  (if((a1.length:Int) !=(b.length:Int))then
  (some ([],false))
  else
  (i7 b a1 0 ([]:List Int) true))
  else
  (fS n a1 cZ true (0:Int))))))))

def gz(l:bR)(at1:Int)(e1:af)(a1:(List Int))(b1:(List Int)):Option ((List Int)×Bool):=
 (cu e1 a1 b1).bind fun r2=>
 if(((e1.Op==(8:Int))&&(at1 !=(IntKind.i64.wrap ((l.Nodes.length:Int)-(1:Int)))))||(decide ((16:Int)<(r2.1.length:Int))))then
 (some ([],false))
 else
 (some (r2.1,r2.2))

def eI(self__:bR→Int→Option ((List Int)×Bool))(l:bR)(at1:Int)(e1:af)(a1:(List Int)):Option ((List Int)×Bool):=
  if(decide ((0:Int)≤e1.B))then
  ((self__ l e1.B).bind fun r3=>
  if(!r3.2)then
  (some ([],false))
  else
  (gz l at1 e1 a1 r3.1))
  else
  (gz l at1 e1 a1 ([]))

def cO:Nat→bR→Int→Option ((List Int)×Bool)
  |0,_,_=>none
  |fu+1,l,at1=>
    (kh l at1).bind fun r=>
    (if(!(r==(0:Int)))then((dw l.Nodes at1).bind fun e=>
    (rd e).bind fun r1=>
    some (!r1))else some true).bind fun t=>
    if t then
    (some ([],false))
    else
    ((dw l.Nodes at1).bind fun e1=>
    if(decide ((0:Int)≤e1.A))then
    (((cO fu) l e1.A).bind fun r4=>
    if(!r4.2)then
    (some ([],false))
    else
    (eI (cO fu) l at1 e1 r4.1))
    else
    (eI (cO fu) l at1 e1 ([])))

def lM(l:bR)(at1:Int):Option ((List Int)×Bool):=
 cO cZ l at1

def fj(l:bR):List af→Nat→Option Int
 |[],i=>
  (kh l (IntKind.i64.wrap ((l.Nodes.length:Int)-(1:Int)))).bind fun r=>
  if(r !=(l.Nodes.length:Int))then
  (some (IntKind.i64.wrap ((l.Nodes.length:Int)-(1:Int))))
  else
  (some (-1:Int))
 |e::tl,i=>
  (lM l (i:Int)).bind fun r1=>
  if(!r1.2)then
  (some (i:Int))
  else
  ((fj l tl) (i+1))

def qh(l:bR):Option Int:=
 if((decide ((l.Nodes.length:Int)<(1:Int)))||(decide ((60:Int)<(l.Nodes.length:Int))))then
 (some (0:Int))
 else
 (fj l l.Nodes 0)

def uF(l:bR):Option Bool:=
 (qh l).bind fun r=>
 some (decide (r<(0:Int)))

def sr(c:Int):Option Bool:=
 some ((decide ((97:Int)≤c))&&(decide (c≤(122:Int))))

def qC(s:jb):List jb→Option Bool
 |[]=>
  some false
 |e::tl=>
  if(e==s)then
  (some true)
  else
  ((qC s tl))

def Bv(l:(List jb))(s:jb):Option Bool:=
 qC s l

def xA:Option (List jb):=
 some ([[83,69,76,69,67,84],[68,73,83,84,73,78,67,84],[70,82,79,77],[76,69,70,84],[74,79,73,78],[79,78],[87,72,69,82,69],[71,82,79,85,80],[66,89],[72,65,86,73,78,71],[85,78,73,79,78],[65,76,76],[79,82,68,69,82],[76,73,77,73,84],[65,83,67],[68,69,83,67],[65,83],[65,78,68],[79,82],[78,79,84],[73,83],[78,85,76,76],[84,82,85,69],[70,65,76,83,69],[67,79,85,78,84],[83,85,77],[77,73,78],[77,65,88]])

def th(s:jb):Option Bool:=
 (xA).bind fun r=>
 (Bv r s).bind fun r1=>
 some r1

def oE(nx:(List Int)→Int→Option jb)(out:List Int)(i:Int)(c1:Int):Option jb:=
 (kq out ([c1])).bind fun cv=>
 nx cv (IntKind.i64.wrap (i+(1:Int)))

def ld(s:jb):Nat→(List Int)→Int→Option jb
  |0,_,_=>none
  |n+1,out,i=>
    if(decide (i<(s.length:Int)))then
    ((AH s i).bind fun b=>
    (sr b).bind fun r=>
    if r then
    (oE (ld s n) out i (IntKind.u8.wrap ((IntKind.u8.wrap (b-(97:Int)))+(65:Int))))
    else
    (oE (ld s n) out i b))
    else
    (some (s5 out))

def uK(s:jb):Option jb:=
 ld s cZ ([]:List Int) (0:Int)

def xz(c:Int):Option Bool:=
 some ((decide ((48:Int)≤c))&&(decide (c≤(57:Int))))

def nH(s:jb):Nat→Int→Option Bool
  |0,_=>none
  |n+1,i=>
    if(decide (i<(s.length:Int)))then
    ((AH s i).bind fun b1=>
    (sr b1).bind fun r3=>
    (if(!r3)then((AH s i).bind fun b2=>
    (xz b2).bind fun r4=>
    some (!r4))else some false).bind fun t2=>
    (if t2 then((AH s i).bind fun b3=>
    some (b3 !=(95:Int)))else some false).bind fun t3=>
    if t3 then
    (some false)
    else
    ((nH s n) (IntKind.i64.wrap (i+(1:Int)))))
    else
    (some true)

def qD(s:jb):Option Bool:=
  (if(!((decide ((s.length:Int)<(1:Int)))||(decide ((16:Int)<(s.length:Int)))))then((AH s (0:Int)).bind fun b=>
  (sr b).bind fun r=>
  some (!r))else some true).bind fun t=>
  (if(!t)then((uK s).bind fun r1=>
  (th r1).bind fun r2=>
  some r2)else some true).bind fun t1=>
  if t1 then
  (some false)
  else
  (nH s cZ (0:Int))

def wg(kind:Int):Option jb:=
  if(kind==(1:Int))then
  (some ([98,111,111,108]))
  else
  (if(kind==(2:Int))then
  (some ([105,110,116]))
  else
  (if(kind==(3:Int))then
  (some ([116,101,120,116]))
  else
  (some ([]))))

def kD(t:ca)(nx:Int→Option Bool)(i:Int)(e:bT):Nat→Int→Option Bool
  |0,_=>none
  |n1+1,k=>
    if(decide (k<i))then
    ((dw t.Columns k).bind fun e1=>
    if(e1.Name==e.Name)then
    (some false)
    else
    ((kD t nx i e n1) (IntKind.i64.wrap (k+(1:Int)))))
    else
    (nx (IntKind.i64.wrap (i+(1:Int))))

def kC(t:ca):Nat→Int→Option Bool
  |0,_=>none
  |n2+1,i1=>
    if(decide (i1<(t.Keys.length:Int)))then
    ((dw t.Keys i1).bind fun e2=>
    (if(!((decide (e2<(0:Int)))||(decide ((t.Columns.length:Int)≤e2))))then((if(decide ((0:Int)<i1))then((dw t.Keys (IntKind.i64.wrap (i1-(1:Int)))).bind fun e3=>
    some (decide (e2≤e3)))else some false).bind fun t3=>
    some t3)else some true).bind fun t2=>
    if t2 then
    (some false)
    else
    ((kC t n2) (IntKind.i64.wrap (i1+(1:Int)))))
    else
    (some true)

def je(t:ca):Nat→Int→Option Bool
  |0,_=>none
  |n+1,i=>
    if(decide (i<(t.Columns.length:Int)))then
    ((dw t.Columns i).bind fun e=>
    (qD e.Name).bind fun r1=>
    (if(!(!r1))then((wg e.Kind).bind fun r2=>
    some (r2==([])))else some true).bind fun t1=>
    if t1 then
    (some false)
    else
    (kD t (je t n) i e cZ (0:Int)))
    else
    (kC t cZ (0:Int))

def oY(t:ca):Option Bool:=
 (qD t.Name).bind fun r=>
 if(((!r)||(decide ((t.Columns.length:Int)<(1:Int))))||(decide ((4:Int)<(t.Columns.length:Int))))then
 (some false)
 else
 (je t cZ (0:Int))

def oD(c:ce)(nx:Int→Option Bool)(i:Int)(e:ca):Nat→Int→Option Bool
  |0,_=>none
  |n1+1,k=>
    if(decide (k<i))then
    ((dw c.Tables k).bind fun e1=>
    if(e1.Name==e.Name)then
    (some false)
    else
    ((oD c nx i e n1) (IntKind.i64.wrap (k+(1:Int)))))
    else
    (nx (IntKind.i64.wrap (i+(1:Int))))

def mR(c:ce):Nat→Int→Option Bool
  |0,_=>none
  |n+1,i=>
    if(decide (i<(c.Tables.length:Int)))then
    ((dw c.Tables i).bind fun e=>
    (oY e).bind fun r=>
    if(!r)then
    (some false)
    else
    (oD c (mR c n) i e cZ (0:Int)))
    else
    (some true)

def uH(c:ce):Option Bool:=
 if(decide ((4:Int)<(c.Tables.length:Int)))then
 (some false)
 else
 (mR c cZ (0:Int))

def oz(nx:Int→Option Bool)(i:Int):Option Bool:=
 nx (IntKind.i64.wrap (i+(1:Int)))

def mP(c:ce)(nx:Int→Option Bool)(i:Int)(e:af):Nat→Int→Option Bool
  |0,_=>none
  |n1+1,k=>
    if(decide (k<(e.Kinds.length:Int)))then
    ((dw c.Tables e.Table).bind fun e2=>
    (dw e2.Columns k).bind fun e3=>
    (dw e.Kinds k).bind fun e4=>
    if(e3.Kind !=e4)then
    (some false)
    else
    ((mP c nx i e n1) (IntKind.i64.wrap (k+(1:Int)))))
    else
    (oz nx i)

def il(l:bR)(c:ce):Nat→Int→Option Bool
  |0,_=>none
  |n+1,i=>
    if(decide (i<(l.Nodes.length:Int)))then
    ((dw l.Nodes i).bind fun e=>
    if(e.Op !=(1:Int))then
    (oz (il l c n) i)
    else
    ((if(!(decide ((c.Tables.length:Int)≤e.Table)))then((dw c.Tables e.Table).bind fun e1=>
    some ((e1.Columns.length:Int) !=(e.Kinds.length:Int)))else some true).bind fun t=>
    if t then
    (some false)
    else
    (mP c (il l c n) i e cZ (0:Int))))
    else
    (some true)

def xx(l:bR)(c:ce):Option Bool:=
 il l c cZ (0:Int)

def pw(s:bI)(way:Int)(cols:(List Int))(f:bK):Option bI:=
 (kq ([]:List bK) s.Frags).bind fun l=>
 (kq l ([f])).bind fun l1=>
 some (bI.mk l1 ([(⟨(9:Int),(-1:Int),(-1:Int),(IntKind.i64.wrap ((l1.length:Int)-(1:Int))),s.Kinds,false,(⟨[]⟩:bf),[],[],[],[],(0:Int)⟩:af)]) s.Kinds (way==(3:Int)) cols)

def iv(s:bI)(way:Int)(cols:(List Int)):Option bI:=
 if s.One then
 (pw s way cols (bK.mk (⟨s.Nodes,(1:Int),way,cols⟩:bK).Nodes (2:Int) (⟨s.Nodes,(1:Int),way,cols⟩:bK).Way (⟨s.Nodes,(1:Int),way,cols⟩:bK).Cols))
 else
 (pw s way cols (⟨s.Nodes,(1:Int),way,cols⟩:bK))

def eh(s:bI):Option bI:=
  if s.One then
  (some s)
  else
  ((iv s (3:Int) ([])).bind fun r=>
  some r)

def ov(n:Int):List Int→Nat→Option Int
 |[],i=>
  some (-1:Int)
 |e::tl,i=>
  if(e==n)then
  (some (i:Int))
  else
  ((ov n tl) (i+1))

def xw(l:(List Int))(n:Int):Option Int:=
 ov n l 0

def nG(of:(List Int))(l:(List Int)):List Int→(List Int)→Option ((List Int)×Bool)
  |[],out=>
    some (out,decide ((0:Int)<(of.length:Int)))
  |e::tl,out=>
    (xw l e).bind fun r=>
    if(decide (r<(0:Int)))then
    (some ([],false))
    else
    ((kq out ([r])).bind fun cv=>
    (nG of l tl) cv)

def iX(of:(List Int))(l:(List Int)):Option ((List Int)×Bool):=
 nG of l of ([]:List Int)

def rF(n2:af):Option af:=
 some n2

def rG(by1:Int)(n1:af):Option af:=
 if(decide ((0:Int)≤n1.B))then
 (rF (af.mk n1.Op n1.A (IntKind.i64.wrap (n1.B+by1)) n1.Table n1.Kinds n1.Left n1.Cond n1.Keys n1.Aggs n1.Items n1.Order n1.Limit))
 else
 (rF n1)

def we(n:af)(by1:Int):Option af:=
 if(decide ((0:Int)≤n.A))then
 (rG by1 (af.mk n.Op (IntKind.i64.wrap (n.A+by1)) n.B n.Table n.Kinds n.Left n.Cond n.Keys n.Aggs n.Items n.Order n.Limit))
 else
 (rG by1 n)

def nN(n:af)(kinds:(List Int))(a1:bI)(b:bI):Nat→(List af)→Int→Option bI
  |0,_,_=>none
  |n1+1,cv,i=>
    if(decide (i<(b.Nodes.length:Int)))then
    ((dw b.Nodes i).bind fun e=>
    (we e (a1.Nodes.length:Int)).bind fun r=>
    (kq cv ([r])).bind fun sT=>
    (nN n kinds a1 b n1) sT (IntKind.i64.wrap (i+(1:Int))))
    else
    ((kq cv ([(af.mk n.Op (IntKind.i64.wrap ((a1.Nodes.length:Int)-(1:Int))) (IntKind.i64.wrap ((cv.length:Int)-(1:Int))) n.Table n.Kinds n.Left n.Cond n.Keys n.Aggs n.Items n.Order n.Limit)])).bind fun l4=>
    some (⟨b.Frags,l4,kinds,a1.One,[]⟩:bI))

def pX(n:af)(kinds:(List Int))(a1:bI)(b:bI):Option bI:=
 (kq ([]:List af) a1.Nodes).bind fun out=>
 nN n kinds a1 b cZ out (0:Int)

def pz(nx:bf→Option bf)(out:bf)(n1:bq):Option bf:=
 (kq out.Nodes ([n1])).bind fun l1=>
 nx ({out with Nodes:=l1}:bf)

def pA(place:Int)(r:Int)(nx:bf→Option bf)(out:bf)(n:bq):Option bf:=
 if(decide ((0:Int)≤n.R))then
 (pz nx out (bq.mk n.Tag n.L (IntKind.i64.wrap (n.R-(IntKind.i64.wrap ((IntKind.i64.wrap (place+(1:Int)))-r)))) n.Col n.Value))
 else
 (pz nx out n)

def im(place:Int)(r:Int):List bq→bf→Option bf
 |[],out=>
  some out
 |e1::tl,out=>
  if(decide ((0:Int)≤e1.L))then
  (pA place r (im place r tl) out (bq.mk e1.Tag (IntKind.i64.wrap (e1.L-(IntKind.i64.wrap ((IntKind.i64.wrap (place+(1:Int)))-r)))) e1.R e1.Col e1.Value))
  else
  (pA place r (im place r tl) out e1)

def t7(e:bf)(place:Int):Option bf:=
 (t6 e place).bind fun r=>
 (fy e.Nodes (IntKind.i64.wrap ((IntKind.i64.wrap (place+(1:Int)))-r)) (IntKind.i64.wrap (place+(1:Int)))).bind fun y=>
 im place r y ({(⟨[]⟩:bf)with Nodes:=([]:List bq)}:bf)

def lO:Nat→bf→Option (List bf)
  |0,_=>none
  |fu+1,e=>
    (dw e.Nodes (IntKind.i64.wrap ((e.Nodes.length:Int)-(1:Int)))).bind fun e1=>
    if(e1.Tag !=(22:Int))then
    (some ([e]))
    else
    ((t7 e e1.L).bind fun r=>
    ((lO fu) r).bind fun r1=>
    (t7 e e1.R).bind fun r2=>
    ((lO fu) r2).bind fun r3=>
    (kq r1 r3).bind fun x=>
    some x)

def wh(e:bf):Option (List bf):=
 lO cZ e

def rK(left:Int)(a1:Int)(b:Int):Option (Int×Int×Bool):=
 if((decide (left≤a1))||(decide (b<left)))then
 (some ((0:Int),(0:Int),false))
 else
 (some (a1,(IntKind.i64.wrap (b-left)),true))

def t8(e:bf)(left:Int):Option (Int×Int×Bool):=
  (if(!((e.Nodes.length:Int) !=(3:Int)))then((dw e.Nodes (2:Int)).bind fun e1=>
  some (e1.Tag !=(16:Int)))else some true).bind fun t=>
  (if(!t)then((dw e.Nodes (0:Int)).bind fun e2=>
  some (e2.Tag !=(2:Int)))else some true).bind fun t1=>
  (if(!t1)then((dw e.Nodes (1:Int)).bind fun e3=>
  some (e3.Tag !=(2:Int)))else some true).bind fun t2=>
  if t2 then
  (some ((0:Int),(0:Int),false))
  else
  ((dw e.Nodes (0:Int)).bind fun e4=>
  (dw e.Nodes (1:Int)).bind fun e5=>
  if(decide (left≤e4.Col))then
  (rK left e5.Col e4.Col)
  else
  (rK left e4.Col e5.Col))

def py:List bq→Option Bool
 |[]=>
  some true
 |e1::tl=>
  if((e1.Tag==(4:Int))||((decide ((12:Int)≤e1.Tag))&&(decide (e1.Tag≤(15:Int)))))then
  (some false)
  else
  ((py tl))

def rh(e:bf):Option Bool:=
 py e.Nodes

def ow(nx:(List Int)→(List Int)→Option ((List Int)×(List Int)))(e:bf)(r1:Int×Int×Bool)(a2:List Int)(b1:List Int):Option ((List Int)×(List Int)):=
  (if(!r1.2.2)then((rh e).bind fun r2=>
  some (!r2))else some false).bind fun t=>
  if t then
  (some ([],[]))
  else
  (nx a2 b1)

def iY(left:Int):List bf→(List Int)→(List Int)→Option ((List Int)×(List Int))
  |[],a1,b=>
    some (a1,b)
  |e::tl,a1,b=>
    (t8 e left).bind fun r1=>
    if(r1.2.2&&(decide ((a1.length:Int)<(16:Int))))then
    ((kq a1 ([r1.1])).bind fun a3=>
    (kq b ([r1.2.1])).bind fun b2=>
    ow (iY left tl) e r1 a3 b2)
    else
    (ow (iY left tl) e r1 a1 b)

def sl(cond:bf)(left:Int):Option ((List Int)×(List Int)):=
 (wh cond).bind fun r=>
 iY left r ([]:List Int) ([]:List Int)

def qg(l:(List Int)):List Int→(List Int)→Option (List Int)
 |[],out=>
  some out
 |e::tl,out=>
  (dw l e).bind fun e1=>
  (kq out ([e1])).bind fun cv=>
  (qg l tl) cv

def sn(l:(List Int))(places:(List Int)):Option (List Int):=
 qg l places ([]:List Int)

def pu(n:af)(kinds:(List Int))(a2:bI)(b4:bI):Option bI:=
 (eh b4).bind fun r=>
 (pX n kinds a2 r).bind fun r1=>
 some (bI.mk r1.Frags r1.Nodes r1.Kinds true r1.Hashed)

def mh(n:af)(kinds:(List Int))(a3:bI)(b5:bI):Option bI:=
 (pX n kinds a3 b5).bind fun r6=>
 some (bI.mk r6.Frags r6.Nodes r6.Kinds r6.One a3.Hashed)

def wc(n:af)(kinds:(List Int))(a1:bI)(b:bI):Option bI:=
  if(a1.One||b.One)then
  (if(!a1.One)then
  ((eh (bI.mk b.Frags a1.Nodes a1.Kinds a1.One a1.Hashed)).bind fun r2=>
  pu n kinds r2 (bI.mk r2.Frags b.Nodes b.Kinds b.One b.Hashed))
  else
  (pu n kinds a1 b))
  else
  ((sl n.Cond (a1.Kinds.length:Int)).bind fun r3=>
  if((r3.1.length:Int)==(0:Int))then
  ((iv b (2:Int) ([])).bind fun r4=>
  (pX n kinds a1 r4).bind fun r5=>
  some (bI.mk r5.Frags r5.Nodes r5.Kinds r5.One a1.Hashed))
  else
  ((iX a1.Hashed r3.1).bind fun r7=>
  if r7.2 then
  ((sn r3.2 r7.1).bind fun r8=>
  (eH b.Hashed r8).bind fun r9=>
  if(!r9)then
  ((sn r3.2 r7.1).bind fun r10=>
  (iv b (1:Int) r10).bind fun r11=>
  mh n kinds a1 r11)
  else
  (mh n kinds a1 b))
  else
  ((iX b.Hashed r3.2).bind fun r12=>
  if r12.2 then
  ((sn r3.1 r12.1).bind fun r13=>
  (iv (bI.mk b.Frags a1.Nodes a1.Kinds a1.One a1.Hashed) (1:Int) r13).bind fun r14=>
  mh n kinds r14 (bI.mk r14.Frags b.Nodes b.Kinds b.One b.Hashed))
  else
  ((iv (bI.mk b.Frags a1.Nodes a1.Kinds a1.One a1.Hashed) (1:Int) r3.1).bind fun r15=>
  (iv (bI.mk r15.Frags b.Nodes b.Kinds b.One b.Hashed) (1:Int) r3.2).bind fun r16=>
  mh n kinds r15 r16))))

def gb(n:af)(kinds:(List Int))(s:bI):Option bI:=
 (kq ([]:List af) s.Nodes).bind fun l=>
 (kq l ([(af.mk n.Op (IntKind.i64.wrap ((s.Nodes.length:Int)-(1:Int))) (-1:Int) n.Table n.Kinds n.Left n.Cond n.Keys n.Aggs n.Items n.Order n.Limit)])).bind fun l1=>
 some (bI.mk s.Frags l1 kinds s.One s.Hashed)

def mO(n:Int):Nat→(List Int)→Int→Option (List Int)
  |0,_,_=>none
  |n1+1,out,i=>
    if(decide (i<n))then
    ((kq out ([i])).bind fun cv=>
    (mO n n1) cv (IntKind.i64.wrap (i+(1:Int))))
    else
    (some out)

def oy(n:Int):Option (List Int):=
 mO n cZ ([]:List Int) (0:Int)

def iZ(n:af)(kinds:(List Int))(s:bI)(under:List Int)(last:af)(way:Int):Option bI:=
 (gb (af.mk (10:Int) n.A n.B n.Table n.Kinds n.Left n.Cond n.Keys n.Aggs n.Items n.Order n.Limit) under s).bind fun r4=>
 (oy (n.Keys.length:Int)).bind fun r5=>
 (iv r4 way r5).bind fun r6=>
 (gb last kinds r6).bind fun r7=>
 some r7

def jN(n:af)(kinds:(List Int))(s:bI)(under:List Int):Nat→Int→af→Option bI
  |0,_,_=>none
  |n1+1,i1,last=>
    if(decide (i1<(n.Aggs.length:Int)))then
    ((dw n.Aggs i1).bind fun e1=>
    (kq last.Aggs ([(⟨e1.Tag,(⟨[]⟩:bf)⟩:ip)])).bind fun l3=>
    (jN n kinds s under n1) (IntKind.i64.wrap (i1+(1:Int))) ({last with Aggs:=l3}:af))
    else
    (if((n.Keys.length:Int)==(0:Int))then
    (iZ n kinds s under last (3:Int))
    else
    (iZ n kinds s under last (1:Int)))

def ox(nx:Nat→(List Int)→Option bI)(i:Nat)(under:List Int)(k:Int):Option bI:=
 (kq under ([k])).bind fun under1=>
 nx (i+1) under1

def gy(n:af)(kinds:(List Int))(s:bI):List Int→Nat→(List Int)→Option bI
  |[],i,under=>
    (oy (n.Keys.length:Int)).bind fun r3=>
    jN n kinds s under cZ (0:Int) ({(⟨(11:Int),(0:Int),(0:Int),(0:Int),[],false,(⟨[]⟩:bf),r3,[],[],[],(0:Int)⟩:af)with Aggs:=([]:List ip)}:af)
  |e::tl,i,under=>
    (if(decide ((n.Keys.length:Int)≤(i:Int)))then((dw n.Aggs (IntKind.i64.wrap ((i:Int)-(n.Keys.length:Int)))).bind fun e2=>
    some (e2.Tag==(3:Int)))else some false).bind fun t=>
    if t then
    (ox (gy n kinds s tl) i under (4:Int))
    else
    (ox (gy n kinds s tl) i under e)

def uE(n:af)(kinds:(List Int))(s:bI):Option bI:=
  if s.One then
  ((gb n kinds s).bind fun r=>
  some (bI.mk r.Frags r.Nodes r.Kinds r.One ([])))
  else
  ((iX s.Hashed n.Keys).bind fun r1=>
  if r1.2 then
  ((gb n kinds s).bind fun r2=>
  some (bI.mk r2.Frags r2.Nodes r2.Kinds r2.One r1.1))
  else
  (gy n kinds s kinds 0 ([]:List Int)))

def mg(nx:(List Int)→Int→Option bI)(bare:List Int)(i:Int)(k:Int):Option bI:=
 (kq bare ([k])).bind fun bare1=>
 nx bare1 (IntKind.i64.wrap (i+(1:Int)))

def gH(n:af)(kinds:(List Int))(a1:bI):Nat→(List Int)→Int→Option bI
  |0,_,_=>none
  |n1+1,bare,i=>
    if(decide (i<(n.Items.length:Int)))then
    ((dw n.Items i).bind fun e1=>
    (if((e1.Nodes.length:Int)==(1:Int))then((dw e1.Nodes (0:Int)).bind fun e2=>
    some (e2.Tag==(2:Int)))else some false).bind fun t=>
    if t then
    ((dw e1.Nodes (0:Int)).bind fun e3=>
    mg (gH n kinds a1 n1) bare i e3.Col)
    else
    (mg (gH n kinds a1 n1) bare i (-1:Int)))
    else
    ((gb n kinds a1).bind fun r3=>
    (iX a1.Hashed bare).bind fun r4=>
    some (bI.mk r3.Frags r3.Nodes r3.Kinds r3.One r4.1))

def vg(s:bI):Option bI:=
 some s

def jK(n:af)(kinds:(List Int))(a2:bI)(b5:bI):Option bI:=
  (pX n kinds a2 b5).bind fun r9=>
  (if(!a2.One)then((eH a2.Hashed b5.Hashed).bind fun r10=>
  some r10)else some false).bind fun t1=>
  if t1 then
  (vg (bI.mk r9.Frags r9.Nodes r9.Kinds r9.One a2.Hashed))
  else
  (vg r9)

def dW(n:af)(kinds:(List Int))(c:ce)(a1:bI)(b:bI):Option bI:=
  if(n.Op==(1:Int))then
  ((dw c.Tables n.Table).bind fun e=>
  some (⟨[],[n],kinds,false,e.Keys⟩:bI))
  else
  (if(n.Op==(2:Int))then
  ((wc n kinds a1 b).bind fun r=>
  some r)
  else
  (if(n.Op==(3:Int))then
  ((gb n kinds a1).bind fun r1=>
  some r1)
  else
  (if(n.Op==(4:Int))then
  ((uE n kinds a1).bind fun r2=>
  some r2)
  else
  (if(n.Op==(5:Int))then
  (gH n kinds a1 cZ ([]:List Int) (0:Int))
  else
  (if(n.Op==(6:Int))then
  (if(a1.One||(decide ((0:Int)<(a1.Hashed.length:Int))))then
  ((gb n kinds a1).bind fun r5=>
  some r5)
  else
  ((oy (kinds.length:Int)).bind fun r6=>
  (iv a1 (1:Int) r6).bind fun r7=>
  (gb n kinds r7).bind fun r8=>
  some r8))
  else
  (if(n.Op==(7:Int))then
  (if(a1.One !=b.One)then
  (if(!a1.One)then
  ((eh (bI.mk b.Frags a1.Nodes a1.Kinds a1.One a1.Hashed)).bind fun r11=>
  jK n kinds r11 (bI.mk r11.Frags b.Nodes b.Kinds b.One b.Hashed))
  else
  ((eh b).bind fun r12=>
  jK n kinds a1 r12))
  else
  (jK n kinds a1 b))
  else
  ((gb n kinds a1).bind fun r13=>
  if a1.One then
  (some (bI.mk r13.Frags r13.Nodes r13.Kinds r13.One ([])))
  else
  ((eh (bI.mk r13.Frags r13.Nodes r13.Kinds r13.One ([]))).bind fun r14=>
  (gb n kinds r14).bind fun r15=>
  some r15))))))))

def rb(s:bI):Option bI:=
 some s

def kU(c:ce)(frags:(List bK))(e:af)(r:(List Int)×Bool)(a1:bI)(b4:bI):Option bI:=
 (dW e r.1 c a1 b4).bind fun r1=>
 if(decide (e.A<(0:Int)))then
 (rb (bI.mk frags r1.Nodes r1.Kinds r1.One r1.Hashed))
 else
 (rb r1)

def fX(self__:bR→ce→Int→(List bK)→Option bI)(l:bR)(c:ce)(frags:(List bK))(e:af)(r:(List Int)×Bool)(a1:bI):Option bI:=
  if(decide ((0:Int)≤e.B))then
  ((self__ l c e.B a1.Frags).bind fun r2=>
  kU c frags e r a1 r2)
  else
  (kU c frags e r a1 (⟨[],[],[],false,[]⟩:bI))

def dV:Nat→bR→ce→Int→(List bK)→Option bI
  |0,_,_,_,_=>none
  |fu+1,l,c,i,frags=>
    (dw l.Nodes i).bind fun e=>
    (lM l i).bind fun r=>
    if(decide ((0:Int)≤e.A))then
    (((dV fu) l c e.A frags).bind fun r3=>
    fX (dV fu) l c frags e r r3)
    else
    (fX (dV fu) l c frags e r (⟨frags,[],[],false,[]⟩:bI))

def rE(l:bR)(c:ce)(i:Int)(frags:(List bK)):Option bI:=
 dV cZ l c i frags

def mi(l2:List bK):Nat→Int→dp→Option (dp×Int)
  |0,_,_=>none
  |n+1,i,x=>
    if(decide (i<(((⟨l2⟩:dp).Frags).length:Int)))then
    ((dw ((⟨l2⟩:dp).Frags) i).bind fun e=>
    if(decide ((60:Int)<(e.Nodes.length:Int)))then
    (some ((⟨[]⟩:dp),(3:Int)))
    else
    ((mi l2 n) (IntKind.i64.wrap (i+(1:Int))) x))
    else
    (some ((⟨l2⟩:dp),(0:Int)))

def pW(l:bR)(c:ce):Option (dp×Int):=
  (uF l).bind fun r=>
  if(!r)then
  (some ((⟨[]⟩:dp),(230:Int)))
  else
  ((uH c).bind fun r1=>
  if(!r1)then
  (some ((⟨[]⟩:dp),(210:Int)))
  else
  ((xx l c).bind fun r2=>
  if(!r2)then
  (some ((⟨[]⟩:dp),(2:Int)))
  else
  ((rE l c (IntKind.i64.wrap ((l.Nodes.length:Int)-(1:Int))) ([])).bind fun r3=>
  (eh r3).bind fun r4=>
  (kq ([]:List bK) r4.Frags).bind fun l1=>
  (kq l1 ([(⟨r4.Nodes,(2:Int),(4:Int),[]⟩:bK)])).bind fun l2=>
  if(decide ((30:Int)<(((⟨l2⟩:dp).Frags).length:Int)))then
  (some ((⟨[]⟩:dp),(3:Int)))
  else
  (mi l2 cZ (0:Int) (⟨[]⟩:dp)))))

def px(b:bf):List bq→Nat→Option Bool
 |[],i=>
  some true
 |e::tl,i=>
  (dw b.Nodes (i:Int)).bind fun e1=>
  if(!decide (e=e1))then
  (some false)
  else
  ((px b tl) (i+1))

def rf(a1:bf)(b:bf):Option Bool:=
 if((a1.Nodes.length:Int) !=(b.Nodes.length:Int))then
 (some false)
 else
 (px b a1.Nodes 0)

def mS(b:(List bf)):List bf→Nat→Option Bool
 |[],i=>
  some true
 |e::tl,i=>
  (dw b (i:Int)).bind fun e1=>
  (rf e e1).bind fun r=>
  if(!r)then
  (some false)
  else
  ((mS b tl) (i+1))

def rJ(a1:(List bf))(b:(List bf)):Option Bool:=
 if((a1.length:Int) !=(b.length:Int))then
 (some false)
 else
 (mS b a1 0)

def jZ(a1:af)(b:af):Nat→Int→Option Bool
  |0,_=>none
  |n1+1,i1=>
    if(decide (i1<(a1.Order.length:Int)))then
    ((dw a1.Order i1).bind fun e2=>
    (dw b.Order i1).bind fun e3=>
    if(!decide (e2=e3))then
    (some false)
    else
    ((jZ a1 b n1) (IntKind.i64.wrap (i1+(1:Int)))))
    else
    ((rf a1.Cond b.Cond).bind fun r3=>
    (if r3 then((rJ a1.Items b.Items).bind fun r4=>
    some r4)else some false).bind fun t3=>
    some t3)

def j3(a1:af)(b:af):Nat→Int→Option Bool
  |0,_=>none
  |n+1,i=>
    if(decide (i<(a1.Aggs.length:Int)))then
    ((dw a1.Aggs i).bind fun e=>
    (dw b.Aggs i).bind fun e1=>
    (if(!(e.Tag !=e1.Tag))then((rf e.Arg e1.Arg).bind fun r2=>
    some (!r2))else some true).bind fun t2=>
    if t2 then
    (some false)
    else
    ((j3 a1 b n) (IntKind.i64.wrap (i+(1:Int)))))
    else
    (jZ a1 b cZ (0:Int))

def qy(a1:af)(b:af):Option Bool:=
  if((((((a1.Op !=b.Op)||(a1.A !=b.A))||(a1.B !=b.B))||(a1.Table !=b.Table))||(a1.Left !=b.Left))||(a1.Limit !=b.Limit))then
  (some false)
  else
  ((if(!(((a1.Aggs.length:Int) !=(b.Aggs.length:Int))||((a1.Order.length:Int) !=(b.Order.length:Int))))then((eH a1.Kinds b.Kinds).bind fun r=>
  some (!r))else some true).bind fun t=>
  (if(!t)then((eH a1.Keys b.Keys).bind fun r1=>
  some (!r1))else some true).bind fun t1=>
  if t1 then
  (some false)
  else
  (j3 a1 b cZ (0:Int)))

def nO(a1:bR)(b:bR):Nat→Int→Option Bool
  |0,_=>none
  |n+1,i=>
    if(decide (i<(a1.Nodes.length:Int)))then
    ((dw a1.Nodes i).bind fun e=>
    (dw b.Nodes i).bind fun e1=>
    (qy e e1).bind fun r=>
    if(!r)then
    (some false)
    else
    ((nO a1 b n) (IntKind.i64.wrap (i+(1:Int)))))
    else
    (some true)

def wd(a1:bR)(b:bR):Option Bool:=
 if((a1.Nodes.length:Int) !=(b.Nodes.length:Int))then
 (some false)
 else
 (nO a1 b cZ (0:Int))

def jY(a1:dp)(b:dp):Nat→Int→Option Bool
  |0,_=>none
  |n+1,i=>
    if(decide (i<(a1.Frags.length:Int)))then
    ((dw a1.Frags i).bind fun e=>
    (dw b.Frags i).bind fun e1=>
    (if(!((e.At !=e1.At)||(e.Way !=e1.Way)))then((eH e.Cols e1.Cols).bind fun r=>
    some (!r))else some true).bind fun t=>
    (if(!t)then((wd (⟨e.Nodes⟩:bR) (⟨e1.Nodes⟩:bR)).bind fun r1=>
    some (!r1))else some true).bind fun t1=>
    if t1 then
    (some false)
    else
    ((jY a1 b n) (IntKind.i64.wrap (i+(1:Int)))))
    else
    (some true)

def oA(a1:dp)(b:dp):Option Bool:=
 if((a1.Frags.length:Int) !=(b.Frags.length:Int))then
 (some false)
 else
 (jY a1 b cZ (0:Int))

def sW(l:bR)(c:ce):Option Bool:=
  (xK).bind fun r=>
  if(!r)then
  (some false)
  else
  ((wr l.Nodes).bind fun r1=>
  (if(!r1)then((o9 c).bind fun r2=>
  some r2)else some true).bind fun t=>
  if t then
  (some true)
  else
  ((qk l c).bind fun r3=>
  (pW l c).bind fun r4=>
  (if(r3.2==r4.2)then((oA r3.1 r4.1).bind fun r5=>
  some r5)else some false).bind fun t1=>
  some t1))


end Go.Proofs.YtnmjbolollcokaaGreatDoor

