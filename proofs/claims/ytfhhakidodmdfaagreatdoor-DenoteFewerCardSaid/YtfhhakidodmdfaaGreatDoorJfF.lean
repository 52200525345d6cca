/- cU of this claim: F. -/
import Derived.Test.YtfhhakidodmdfaaGreatDoorJfD
import Derived.Test.YtfhhakidodmdfaaGreatDoorJfV4
set_option linter.all false
namespace Go.Proofs.YtfhhakidodmdfaaGreatDoor
open Go

def fM(f:(Int→Option Bool)):List Int→Nat→Option Int
 |[],i=>
  some (-1:Int)
 |e::tl,i=>
  (f e).bind fun r=>
  if r then
  (some (i:Int))
  else
  ((fM f tl) (i+1))

def lH(s:(List Int))(f:(Int→Option Bool)):Option Int:=
 fM f s 0

def cE(s:(List Int))(f:(Int→Option Bool)):Option Bool:=
 (lH s f).bind fun r=>
 some (decide ((0:Int)≤r))

def Do(k:Int):Option Bool:=
 some (((k==(1:Int))||(k==(2:Int)))||(k==(3:Int)))

def jD(k:Int):Option Bool:=
 (Do k).bind fun r=>
 some (!r)

def gb(c:aE)(n:aj):Option ((List Int)×Bool):=
  (if((((decide ((0:Int)≤n.Table))&&(decide (n.Table<(4:Int))))&&(decide ((1:Int)≤(n.Kinds.length:Int))))&&(decide ((n.Kinds.length:Int)≤(4:Int))))then((cE n.Kinds jD).bind fun r=>
  some (!r))else some false).bind fun t=>
  some (n.Kinds,t)

def mN(s:List Int):Option (List Int):=
 some s

def mO(n:Int):Option (List Int):=
  if(decide ((0:Int)<(IntKind.i64.wrap (n-(IntKind.i64.wrap ((0:Int)-(0:Int)))))))then
  ((Xv (IntKind.i64.wrap (n-(IntKind.i64.wrap ((0:Int)-(0:Int)))))).bind fun _=>
  (oe (IntKind.i64.wrap (n-(IntKind.i64.wrap ((0:Int)-(0:Int))))) (0:Int)).bind fun mk=>
  (dE mk 0 (0:Int)).bind fun y=>
  mN y)
  else
  (mN ([]:List Int))

def lU(n:Int):Option (List Int):=
 if(decide (n<(0:Int)))then
 (none)
 else
 (mO n)

def jt:List (List Int)→(List Int)→Option (List Int)
 |[],newslice=>
  some newslice
 |e1::tl1,newslice=>
  (app newslice e1).bind fun newslice1=>
  (jt tl1) newslice1

def ju(slices:(List (List Int))):List (List Int)→Int→Option (List Int)
 |[],size=>
  (lU size).bind fun r=>
  jt slices r
 |e::tl,size=>
  if(decide ((IntKind.i64.wrap (size+(e.length:Int)))<(0:Int)))then
  (none)
  else
  ((ju slices tl) (IntKind.i64.wrap (size+(e.length:Int))))

def ja(slices:(List (List Int))):Option (List Int):=
 ju slices slices (0:Int)

def pK(tag:Int):Option Int:=
  if((tag==(1:Int))||(tag==(2:Int)))then
  (some (0:Int))
  else
  (if((decide ((4:Int)≤tag))&&(decide (tag≤(7:Int))))then
  (some (1:Int))
  else
  (if((decide ((12:Int)≤tag))&&(decide (tag≤(23:Int))))then
  (some (2:Int))
  else
  (some (-1:Int))))

def kP(v1:ac):Option ac:=
 some v1

def qd(v2:ac):Option ac:=
 kP (ac.mk (0:Int) v2.N v2.U v2.S)

def qc(v:ac):Option ac:=
 qd (ac.mk v.Kind (0:Int) v.U v.S)

def qb(v3:ac):Option ac:=
 kP v3

def xW(v:ac):Option ac:=
  if(v.Kind==(1:Int))then
  (if((v.N !=(0:Int))&&(v.N !=(1:Int)))then
  (kP v)
  else
  (qc v))
  else
  (if(v.Kind==(2:Int))then
  (qc v)
  else
  (if(v.Kind==(0:Int))then
  (qd v)
  else
  (if(v.Kind==(3:Int))then
  (if(decide ((v.S.length:Int)≤(40:Int)))then
  (qb (ac.mk (0:Int) v.N v.U ([])))
  else
  (qb v))
  else
  (if(v.Kind==(4:Int))then
  (kP (ac.mk (0:Int) (0:Int) (0:Int) v.S))
  else
  (kP v)))))

def lr(v:ac):Option Int:=
 (xW v).bind fun r=>
 if(!decide (r=(⟨(0:Int),(0:Int),(0:Int),[]⟩:ac)))then
 (some (120:Int))
 else
 (some (0:Int))

def mC(v:ac):Option Bool:=
 (lr v).bind fun r=>
 some ((r==(0:Int))&&(v.Kind !=(4:Int)))

def uX(n:bp):Option Bool:=
  if(n.Tag==(1:Int))then
  ((mC n.Value).bind fun r=>
  some (r&&(n.Col==(0:Int))))
  else
  (if(n.Tag==(2:Int))then
  (some (((decide (n.Value=(⟨(0:Int),(0:Int),(0:Int),[]⟩:ac)))&&(decide ((0:Int)≤n.Col)))&&(decide (n.Col<(16:Int)))))
  else
  (some ((decide (n.Value=(⟨(0:Int),(0:Int),(0:Int),[]⟩:ac)))&&(n.Col==(0:Int)))))

def mo(nx:Nat→(List Int)→(List Int)→Option ((List Int)×Bool))(i:Nat)(e1:bp)(all:List Int)(open1:List Int)(r:Int):List Int→Nat→Int→(List Int)→Option ((List Int)×Bool)
  |[],i1,first,at1=>
    if(!decide (at1=([e1.L,e1.R])))then
    (some ([],false))
    else
    ((app all ([first])).bind fun all1=>
    (dE open1 0 (IntKind.i64.wrap ((open1.length:Int)-r))).bind fun y1=>
    (app y1 ([(i:Int)])).bind fun open2=>
    nx (i+1) all1 open2)
  |e2::tl1,i1,first,at1=>
    (cN all e2).bind fun e3=>
    (cN at1 (i1:Int)).bind fun e4=>
    (some (at1.set (i1:Int).toNat e2)).bind fun ar=>
    (mo nx i e1 all open1 r tl1) (i1+1) (min first e3) ar

def kX:List bp→Nat→(List Int)→(List Int)→Option ((List Int)×Bool)
  |[],i,all,open1=>
    some (all,(((open1.length:Int)==(1:Int))&&(decide ((all.length:Int)≤(1000:Int)))))
  |e1::tl,i,all,open1=>
    (pK e1.Tag).bind fun r=>
    (if(!((decide (r<(0:Int)))||(decide ((open1.length:Int)<r))))then((uX e1).bind fun r1=>
    some (!r1))else some true).bind fun t=>
    if t then
    (some ([],false))
    else
    ((dE open1 (IntKind.i64.wrap ((open1.length:Int)-r)) (open1.length:Int)).bind fun y=>
    mo (kX tl) i e1 all open1 r y 0 (i:Int) ([(-1:Int),(-1:Int)]))

def yD(e:bJ):Option ((List Int)×Bool):=
 kX e.Nodes 0 ([]:List Int) ([]:List Int)

def rm(e:bJ):Option Int:=
 (yD e).bind fun r=>
 if(!r.2)then
 (some (200:Int))
 else
 (some (0:Int))

def dZ(i:Nat)(y:List Int):Nat→Nat→(List Int)→Int→Option (List Int)
  |0,i1,s1,k=>
    (dE s1 k (s1.length:Int)).bind fun y1=>
    (some (s1.take k.toNat++List.replicate y1.length (0:Int))).bind fun cl=>
    (dE cl 0 k).bind fun y2=>
    some y2
  |k2+1,i1,s1,k=>
    (yx s1 (i:Int) y.length (i1:Int)).bind fun e3=>
    (yx s1 (i:Int) y.length (IntKind.i64.wrap ((i1:Int)-(1:Int)))).bind fun e4=>
    if(e3 !=e4)then
    ((yx s1 (i:Int) y.length (i1:Int)).bind fun e5=>
    (cN s1 k).bind fun e6=>
    (some (s1.set k.toNat e5)).bind fun st=>
    (dZ i y k2) (i1+1) st (IntKind.i64.wrap (k+(1:Int))))
    else
    ((dZ i y k2) (i1+1) s1 k)

def eV(s:(List Int)):List Int→Nat→Option (List Int)
  |[],i=>
    some s
  |e::tl,i=>
    (cN s (IntKind.i64.wrap ((i:Int)-(1:Int)))).bind fun e1=>
    if(e==e1)then
    ((dE s (i:Int) (s.length:Int)).bind fun y=>
    dZ i y (y.length-1) 1 s (i:Int))
    else
    ((eV s tl) (i+1))

def kg(s:(List Int)):Option (List Int):=
 if(decide ((s.length:Int)<(2:Int)))then
 (some s)
 else
 (eV s (s.drop (1)) 1)

def nd:List bp→(List Int)→Option (List Int)
  |[],out=>
    (EP out).bind fun rQ=>
    (kg rQ).bind fun r1=>
    some r1
  |e1::tl,out=>
    if(e1.Tag==(2:Int))then
    ((app out ([e1.Col])).bind fun out1=>
    (nd tl) out1)
    else
    ((nd tl) out)

def tt(e:bJ):Option (List Int):=
 (rm e).bind fun r=>
 if(r !=(0:Int))then
 (some ([]:List Int))
 else
 (nd e.Nodes ([]:List Int))

def cz(s:(List Int)):Option (List Int):=
 (app ([]:List Int) s).bind fun x=>
 some x

def pt(stack:(List Int))(k:Int):Option ((List Int)×(List Int)):=
 (dE stack (IntKind.i64.wrap ((stack.length:Int)-k)) (stack.length:Int)).bind fun y=>
 (cz y).bind fun r=>
 (dE stack 0 (IntKind.i64.wrap ((stack.length:Int)-k))).bind fun y1=>
 some (r,y1)

def mn(bad:Int)(stack:List Int):Option (Int×Int):=
  if(bad !=(0:Int))then
  (some ((0:Int),bad))
  else
  ((cN stack (0:Int)).bind fun e1=>
  some (e1,(0:Int)))

def ik(do1:(bp→(List Int)→Option (Int×Int))):List bp→Int→(List Int)→Option (Int×Int)
  |[],bad1,stack1=>
    mn bad1 stack1
  |e2::tl,bad1,stack1=>
    (pK e2.Tag).bind fun r=>
    (pt stack1 r).bind fun r1=>
    (do1 e2 r1.1).bind fun r2=>
    if(r2.2 !=(0:Int))then
    (mn r2.2 r1.2)
    else
    ((app r1.2 ([r2.1])).bind fun l2=>
    (ik do1 tl) bad1 l2)

def ph(e:bJ)(do1:(bp→(List Int)→Option (Int×Int))):Option (Int×Int):=
 ik do1 e.Nodes (0:Int) ([]:List Int)

def xl(tag:Int):Option Bool:=
 some ((tag==(4:Int))||((decide ((12:Int)≤tag))&&(decide (tag≤(15:Int)))))

def mp(kinds:(List Int))(n:bp):List Int→Int→Option (Int×Int)
  |[],own=>
    if(n.Tag==(1:Int))then
    (some (n.Value.Kind,(0:Int)))
    else
    (if(n.Tag==(2:Int))then
    ((cN kinds n.Col).bind fun e1=>
    some (e1,(0:Int)))
    else
    ((xl n.Tag).bind fun r=>
    if r then
    (if((own==(-1:Int))||((own !=(0:Int))&&(own !=(2:Int))))then
    (some ((0:Int),(201:Int)))
    else
    (some ((2:Int),(0:Int))))
    else
    (if(((n.Tag==(5:Int))||(n.Tag==(22:Int)))||(n.Tag==(23:Int)))then
    (if((own==(-1:Int))||((own !=(0:Int))&&(own !=(1:Int))))then
    (some ((0:Int),(201:Int)))
    else
    (some ((1:Int),(0:Int))))
    else
    (if((own==(-1:Int))||((own !=(0:Int))&&(own !=own)))then
    (some ((0:Int),(201:Int)))
    else
    (some ((1:Int),(0:Int)))))))
  |e::tl,own=>
    if((e==(0:Int))||(e==own))then
    ((mp kinds n tl) own)
    else
    (if(own==(0:Int))then
    ((mp kinds n tl) e)
    else
    ((mp kinds n tl) (-1:Int)))

def jI(kinds:(List Int))(n:bp)(l:(List Int)):Option (Int×Int):=
 mp kinds n l (0:Int)

def nc(e:bJ)(kinds:(List Int)):List Int→Option (Int×Int)
 |[]=>
  (ph e (jI kinds)).bind fun r2=>
  some (r2.1,r2.2)
 |e2::tl1=>
  if(decide ((kinds.length:Int)≤e2))then
  (some ((0:Int),(2:Int)))
  else
  ((nc e kinds tl1))

def qy(e:bJ)(kinds:(List Int)):List Int→Option (Int×Int)
 |[]=>
  (tt e).bind fun r1=>
  nc e kinds r1
 |e1::tl=>
  if((decide (e1<(0:Int)))||(decide ((3:Int)<e1)))then
  (some ((0:Int),(2:Int)))
  else
  ((qy e kinds tl))

def tp(e:bJ)(kinds:(List Int)):Option (Int×Int):=
 (rm e).bind fun r=>
 if(r !=(0:Int))then
 (some ((0:Int),r))
 else
 (qy e kinds kinds)

def sb(e:bJ)(kinds:(List Int)):Option Bool:=
 (tp e kinds).bind fun r=>
 some ((r.2==(0:Int))&&((r.1==(1:Int))||(r.1==(0:Int))))

def g9(c:aE)(n:aj):Option ((List Int)×Bool):=
 (cN c.kinds n.A).bind fun e=>
 (cN c.kinds n.B).bind fun e1=>
 (ja ([e,e1])).bind fun r=>
 (sb n.Cond r).bind fun r1=>
 some (r,r1)

def gc(c:aE)(n:aj):Option ((List Int)×Bool):=
 (cN c.kinds n.A).bind fun e=>
 (sb n.Cond e).bind fun r=>
 some (e,r)

def qn(kinds:(List Int))(c:Int):Option Bool:=
 some ((decide (c<(0:Int)))||(decide ((kinds.length:Int)≤c)))

def sZ(l:(List Int))(kinds:(List Int)):Option Bool:=
 (cE l (qn kinds)).bind fun r=>
 some (!r)

def s0(r:Int×Int)(x:Bool):Option (Int×Bool):=
 if x then
 (some (r.1,(r.2==(0:Int))))
 else
 (some ((0:Int),false))

def zd(a1:hU)(kinds:(List Int)):Option (Int×Bool):=
  if(a1.Tag==(1:Int))then
  (some ((2:Int),((a1.Arg.Nodes.length:Int)==(0:Int))))
  else
  ((tp a1.Arg kinds).bind fun r=>
  if(a1.Tag==(2:Int))then
  (some ((2:Int),(r.2==(0:Int))))
  else
  (if(a1.Tag==(3:Int))then
  (some ((2:Int),((r.2==(0:Int))&&((r.1==(2:Int))||(r.1==(0:Int))))))
  else
  (if(a1.Tag==(4:Int))then
  (s0 r (a1.Tag==(4:Int)))
  else
  (s0 r (a1.Tag==(5:Int))))))

def fc(e:(List Int)):List hU→(List Int)→Bool→Option ((List Int)×Bool)
 |[],out1,ok=>
  some (out1,ok)
 |e2::tl1,out1,ok=>
  (zd e2 e).bind fun r1=>
  (app out1 ([r1.1])).bind fun out2=>
  (fc e tl1) out2 (ok&&r1.2)

def gy(n:aj)(e:(List Int))(t:Bool):List Int→(List Int)→Option ((List Int)×Bool)
 |[],out=>
  fc e n.Aggs out t
 |e1::tl,out=>
  (cN e e1).bind fun e3=>
  (app out ([e3])).bind fun out3=>
  (gy n e t tl) out3

def gK(c:aE)(n:aj):Option ((List Int)×Bool):=
  (cN c.kinds n.A).bind fun e=>
  (if(((decide ((n.Keys.length:Int)≤(3:Int)))&&(decide ((n.Aggs.length:Int)≤(12:Int))))&&(decide ((0:Int)<(IntKind.i64.wrap ((n.Keys.length:Int)+(n.Aggs.length:Int))))))then((sZ n.Keys e).bind fun r=>
  some r)else some false).bind fun t=>
  if(!t)then
  (some ([],false))
  else
  (gy n e t n.Keys ([]:List Int))

def fz(c:aE)(n:aj):List bJ→(List Int)→Bool→Option ((List Int)×Bool)
 |[],out,ok=>
  some (out,ok)
 |e::tl,out,ok=>
  (cN c.kinds n.A).bind fun e1=>
  (tp e e1).bind fun r=>
  (app out ([r.1])).bind fun out1=>
  (fz c n tl) out1 (ok&&(r.2==(0:Int)))

def fH(c:aE)(n:aj):Option ((List Int)×Bool):=
 fz c n n.Items ([]:List Int) ((decide ((1:Int)≤(n.Items.length:Int)))&&(decide ((n.Items.length:Int)≤(16:Int))))

def fd(c:aE)(n:aj):Option ((List Int)×Bool):=
 (cN c.kinds n.A).bind fun e=>
 some (e,true)

def iJ(nx:Nat→(List Int)→Bool→Option ((List Int)×Bool))(i:Nat)(e2:Int)(ok:Bool)(out1:List Int):Option ((List Int)×Bool):=
  (if ok then((cN out1 (i:Int)).bind fun e3=>
  some ((e3==e2)||(e2==(0:Int))))else some false).bind fun t=>
  nx (i+1) out1 t

def dG:List Int→Nat→(List Int)→Bool→Option ((List Int)×Bool)
  |[],i,out,ok=>
    some (out,ok)
  |e2::tl,i,out,ok=>
    (cN out (i:Int)).bind fun e4=>
    if(e4==(0:Int))then
    ((some (out.set (i:Int).toNat e2)).bind fun st=>
    iJ (dG tl) i e2 ok st)
    else
    (iJ (dG tl) i e2 ok out)

def gI(c:aE)(n:aj):Option ((List Int)×Bool):=
  (cN c.kinds n.A).bind fun e=>
  (cN c.kinds n.B).bind fun e1=>
  if((e.length:Int) !=(e1.length:Int))then
  (some ([],false))
  else
  ((cz e).bind fun r=>
  dG e1 0 r true)

def dJ(f:(fq→Option Bool)):List fq→Nat→Option Int
 |[],i=>
  some (-1:Int)
 |e::tl,i=>
  (f e).bind fun r=>
  if r then
  (some (i:Int))
  else
  ((dJ f tl) (i+1))

def iE(s:(List fq))(f:(fq→Option Bool)):Option Int:=
 dJ f s 0

def dK(s:(List fq))(f:(fq→Option Bool)):Option Bool:=
 (iE s f).bind fun r=>
 some (decide ((0:Int)≤r))

def k5(in1:(List Int))(o:fq):Option Bool:=
 some ((decide (o.Col<(0:Int)))||(decide ((in1.length:Int)≤o.Col)))

def gJ(c:aE)(n:aj):Option ((List Int)×Bool):=
  (cN c.kinds n.A).bind fun e=>
  (if(decide ((n.Order.length:Int)≤(3:Int)))then((dK n.Order (k5 e)).bind fun r=>
  some (!r))else some false).bind fun t=>
  some (e,(((t&&(decide ((-1:Int)≤n.Limit)))&&(decide (n.Limit≤(2147483647:Int))))&&((c.kinds.length:Int)==(IntKind.i64.wrap ((c.Logic.Nodes.length:Int)-(1:Int))))))

def t7(n:aj):Option Bool:=
 some (((((((((n.Table==(0:Int))&&((n.Kinds.length:Int)==(0:Int)))&&(!n.Left))&&((n.Cond.Nodes.length:Int)==(0:Int)))&&((n.Keys.length:Int)==(0:Int)))&&((n.Aggs.length:Int)==(0:Int)))&&((n.Items.length:Int)==(0:Int)))&&((n.Order.length:Int)==(0:Int)))&&(n.Limit==(0:Int)))

def t8(n:aj):Option aj:=
  if(n.Op==(1:Int))then
  (some (aj.mk n.Op n.A n.B (0:Int) ([]) n.Left n.Cond n.Keys n.Aggs n.Items n.Order n.Limit))
  else
  (if(n.Op==(2:Int))then
  (some (aj.mk n.Op n.A n.B n.Table n.Kinds false (⟨[]⟩:bJ) n.Keys n.Aggs n.Items n.Order n.Limit))
  else
  (if(n.Op==(3:Int))then
  (some (aj.mk n.Op n.A n.B n.Table n.Kinds n.Left (⟨[]⟩:bJ) n.Keys n.Aggs n.Items n.Order n.Limit))
  else
  (if(n.Op==(4:Int))then
  (some (aj.mk n.Op n.A n.B n.Table n.Kinds n.Left n.Cond ([]) ([]) n.Items n.Order n.Limit))
  else
  (if(n.Op==(5:Int))then
  (some (aj.mk n.Op n.A n.B n.Table n.Kinds n.Left n.Cond n.Keys n.Aggs ([]) n.Order n.Limit))
  else
  (if(n.Op==(8:Int))then
  (some (aj.mk n.Op n.A n.B n.Table n.Kinds n.Left n.Cond n.Keys n.Aggs n.Items ([]) (0:Int)))
  else
  (some n))))))

def qo(x:Bool):Option Int:=
 if x then
 (some (2:Int))
 else
 (some (1:Int))

def uP(op:Int):Option Int:=
  if(op==(1:Int))then
  (some (0:Int))
  else
  (if(op==(2:Int))then
  (qo (op==(2:Int)))
  else
  (qo (op==(7:Int))))

def j3(c:aE)(i:Int):Option (Int×Bool):=
  (cN c.Logic.Nodes i).bind fun e=>
  (uP e.Op).bind fun r=>
  if(r==(0:Int))then
  (some (i,((e.A==(-1:Int))&&(e.B==(-1:Int)))))
  else
  (if(r==(1:Int))then
  (if(((e.A !=(IntKind.i64.wrap (i-(1:Int))))||(e.B !=(-1:Int)))||(i==(0:Int)))then
  (some ((0:Int),false))
  else
  ((cN c.first e.A).bind fun e1=>
  some (e1,true)))
  else
  ((if(!((e.B !=(IntKind.i64.wrap (i-(1:Int))))||(i==(0:Int))))then((cN c.first e.B).bind fun e2=>
  some (e.A !=(IntKind.i64.wrap (e2-(1:Int)))))else some true).bind fun t=>
  if(t||(decide (e.A<(0:Int))))then
  (some ((0:Int),false))
  else
  ((cN c.first e.A).bind fun e3=>
  some (e3,true))))

def gz{Sg:Type}(yld:(Int×Bool)→Sg→Option (Bool×Sg))(nx:Nat→Sg→aE→Option (Sg×aE))(i:Nat)(s1:Sg)(ok1:Bool)(kinds:(List Int))(ob2:aE):Option (Sg×aE):=
 (app ob2.kinds ([kinds])).bind fun l6=>
 (yld ((i:Int),(ok1&&(decide ((kinds.length:Int)≤(16:Int))))) s1).bind fun r2=>
 if((!r2.1)||(!(ok1&&(decide ((kinds.length:Int)≤(16:Int))))))then
 (some (r2.2,({ob2 with kinds:=l6}:aE)))
 else
 (nx (i+1) r2.2 ({ob2 with kinds:=l6}:aE))

def d5{Sg:Type}(yld:(Int×Bool)→Sg→Option (Bool×Sg))(nx:Nat→Sg→aE→Option (Sg×aE))(i:Nat)(e2:aj)(s1:Sg)(ok:Bool)(ob1:aE):Option (Sg×aE):=
  if ok then
  ((((pH (dw (dw (dw (dw (dw (dw (dw (dw ([]:List (Int×(aE→aj→Option (((List Int)×Bool)×aE)))) (1:Int) (fun(mc:aE) (mx:aj)=>(gb mc mx).map fun mr=>(mr,mc))) (2:Int) (fun(mc:aE) (mx:aj)=>(g9 mc mx).map fun mr=>(mr,mc))) (3:Int) (fun(mc:aE) (mx:aj)=>(gc mc mx).map fun mr=>(mr,mc))) (4:Int) (fun(mc:aE) (mx:aj)=>(gK mc mx).map fun mr=>(mr,mc))) (5:Int) (fun(mc:aE) (mx:aj)=>(fH mc mx).map fun mr=>(mr,mc))) (6:Int) (fun(mc:aE) (mx:aj)=>(fd mc mx).map fun mr=>(mr,mc))) (7:Int) (fun(mc:aE) (mx:aj)=>(gI mc mx).map fun mr=>(mr,mc))) (8:Int) (fun(mc:aE) (mx:aj)=>(gJ mc mx).map fun mr=>(mr,mc))) e2.Op).getD (fun _ _=>none)) ob1 (e2)).bind fun r3=>
  gz yld nx i s1 r3.1.2 r3.1.1 r3.2)
  else
  (gz yld nx i s1 ok ([]) ob1)

def bF{Sg:Type}(yld:(Int×Bool)→Sg→Option (Bool×Sg)):List aj→Nat→Sg→aE→Option (Sg×aE)
  |[],i,s1,ob=>
    some (s1,ob)
  |e2::tl,i,s1,ob=>
    (if((pH (dw (dw (dw (dw (dw (dw (dw (dw ([]:List (Int×(aE→aj→Option (((List Int)×Bool)×aE)))) (1:Int) (fun(mc:aE) (mx:aj)=>(gb mc mx).map fun mr=>(mr,mc))) (2:Int) (fun(mc:aE) (mx:aj)=>(g9 mc mx).map fun mr=>(mr,mc))) (3:Int) (fun(mc:aE) (mx:aj)=>(gc mc mx).map fun mr=>(mr,mc))) (4:Int) (fun(mc:aE) (mx:aj)=>(gK mc mx).map fun mr=>(mr,mc))) (5:Int) (fun(mc:aE) (mx:aj)=>(fH mc mx).map fun mr=>(mr,mc))) (6:Int) (fun(mc:aE) (mx:aj)=>(fd mc mx).map fun mr=>(mr,mc))) (7:Int) (fun(mc:aE) (mx:aj)=>(gI mc mx).map fun mr=>(mr,mc))) (8:Int) (fun(mc:aE) (mx:aj)=>(gJ mc mx).map fun mr=>(mr,mc))) e2.Op).isSome)then((t8 e2).bind fun r=>
    (t7 r).bind fun r1=>
    some r1)else some false).bind fun t=>
    if t then
    ((j3 ob (i:Int)).bind fun r4=>
    (app ob.first ([r4.1])).bind fun l7=>
    d5 yld (bF yld tl) i e2 s1 r4.2 ({ob with first:=l7}:aE))
    else
    (d5 yld (bF yld tl) i e2 s1 t ob)

def lV{Sg:Type}(c:aE)(yld:(Int×Bool)→Sg→Option (Bool×Sg))(s:Sg):Option (Sg×aE):=
 bF yld c.Logic.Nodes 0 s c

def qp(c:aE):Option (PZ (Int×Bool) aE):=
 some (fun _=>lV c)

def pg(x:Int×Bool)(x1:Bool)(x2:Int)(p:Bool):Option (Option Nat×(Bool×Int×Bool)):=
 if(!x.2)then
 (some (some 0,(false,x.1,true)))
 else
 (some (none,(x1,x2,p)))

def pI(l:bc):Option (aE×Int×Bool):=
  if((decide ((l.Nodes.length:Int)<(1:Int)))||(decide ((60:Int)<(l.Nodes.length:Int))))then
  (some ((⟨l,[],[]⟩:aE),(0:Int),false))
  else
  ((qp (⟨l,[],[]⟩:aE)).bind fun it=>
  (it (Option Nat×(Bool×Int×Bool)) (xm (fun x s=>pg x s.1 s.2.1 s.2.2)) (none,(false,(0:Int),false))).bind fun r=>
  if r.1.1.isNone then
  ((cN r.2.first (IntKind.i64.wrap ((l.Nodes.length:Int)-(1:Int)))).bind fun e=>
  some (r.2,(IntKind.i64.wrap ((l.Nodes.length:Int)-(1:Int))),(e==(0:Int))))
  else
  ((isT r.1.2.2.2).bind fun _=>
  some (r.2,r.1.2.2.1,r.1.2.1)))

def mG(l:bc):Option (Int×Int):=
 (pI l).bind fun r=>
 if(!r.2.2)then
 (some (r.2.1,(230:Int)))
 else
 (some ((0:Int),(0:Int)))

def mu(kinds:(List Int))(nx:Option Bool):List ac→Nat→Option Bool
  |[],i1=>
    nx
  |e1::tl1,i1=>
    (lr e1).bind fun r=>
    (if(!(r !=(0:Int)))then((if(e1.Kind !=(0:Int))then((cN kinds (i1:Int)).bind fun e2=>
    some (e1.Kind !=e2))else some false).bind fun t1=>
    some t1)else some true).bind fun t=>
    if t then
    (some false)
    else
    ((mu kinds nx tl1) (i1+1))

def mv(kinds:(List Int)):List (List ac)→Option Bool
 |[]=>
  some true
 |e::tl=>
  if((e.length:Int) !=(kinds.length:Int))then
  (some false)
  else
  (mu kinds (mv kinds tl) e 0)

def sj(rows:(List (List ac)))(kinds:(List Int)):Option Bool:=
 if(decide ((12:Int)<(rows.length:Int)))then
 (some false)
 else
 (mv kinds rows)

def oK(b:dv):List aj→Option Bool
  |[]=>
    some true
  |e::tl=>
    (if(e.Op==(1:Int))then((if(!(decide ((b.Tables.length:Int)≤e.Table)))then((cN b.Tables e.Table).bind fun e1=>
    (sj e1 e.Kinds).bind fun r1=>
    some (!r1))else some true).bind fun t1=>
    some t1)else some false).bind fun t=>
    if t then
    (some false)
    else
    ((oK b tl))

def u0(l:bc)(b:dv):Option Bool:=
 (mG l).bind fun r=>
 if(r.2 !=(0:Int))then
 (some false)
 else
 (oK b l.Nodes)

def sd(l:bc):Option ((List Int)×Int):=
  (pI l).bind fun r=>
  if(!r.2.2)then
  (some ([],(230:Int)))
  else
  ((cN r.1.kinds r.2.1).bind fun e=>
  (cz e).bind fun r1=>
  some (r1,(0:Int)))

def lh(r:cZ)(n:aj):Option ((List (List ac))×Int):=
 (cN r.Base.Tables n.Table).bind fun e=>
 some (e,(0:Int))

def iF(s:List ac):Option (List ac):=
 some s

def iG(n:Int):Option (List ac):=
  if(decide ((0:Int)<(IntKind.i64.wrap (n-(IntKind.i64.wrap ((0:Int)-(0:Int)))))))then
  ((Xv (IntKind.i64.wrap (n-(IntKind.i64.wrap ((0:Int)-(0:Int)))))).bind fun _=>
  (oe (IntKind.i64.wrap (n-(IntKind.i64.wrap ((0:Int)-(0:Int))))) (⟨(0:Int),(0:Int),(0:Int),[]⟩:ac)).bind fun mk=>
  (dE mk 0 (0:Int)).bind fun y=>
  iF y)
  else
  (iF ([]:List ac))

def gM(n:Int):Option (List ac):=
 if(decide (n<(0:Int)))then
 (none)
 else
 (iG n)

def eZ:List (List ac)→(List ac)→Option (List ac)
 |[],newslice=>
  some newslice
 |e1::tl1,newslice=>
  (app newslice e1).bind fun newslice1=>
  (eZ tl1) newslice1

def fa(slices:(List (List ac))):List (List ac)→Int→Option (List ac)
 |[],size=>
  (gM size).bind fun r=>
  eZ slices r
 |e::tl,size=>
  if(decide ((IntKind.i64.wrap (size+(e.length:Int)))<(0:Int)))then
  (none)
  else
  ((fa slices tl) (IntKind.i64.wrap (size+(e.length:Int))))

def dC(slices:(List (List ac))):Option (List ac):=
 fa slices slices (0:Int)

def fS{Sg:Type}(yld:(Int×(List ac))→Sg→Option (Bool×Sg))(nx:Nat→Sg→Option Sg)(i:Nat)(e2:(List ac)):List (List ac)→Sg→Option Sg
 |[],s2=>
  nx (i+1) s2
 |e4::tl1,s2=>
  (dC ([e2,e4])).bind fun r=>
  (yld ((i:Int),r) s2).bind fun r1=>
  if(!r1.1)then
  (some r1.2)
  else
  ((fS yld nx i e2 tl1) r1.2)

def dO{Sg:Type}(b:(List (List ac)))(yld:(Int×(List ac))→Sg→Option (Bool×Sg)):List (List ac)→Nat→Sg→Option Sg
 |[],i,s1=>
  some s1
 |e2::tl,i,s1=>
  fS yld (dO b yld tl) i e2 b s1

def mt{Sg:Type}(a1:(List (List ac)))(b:(List (List ac)))(yld:(Int×(List ac))→Sg→Option (Bool×Sg))(s:Sg):Option Sg:=
 dO b yld a1 0 s

def wU(a1:(List (List ac)))(b:(List (List ac))):Option (It (Int×(List ac))):=
 some (fun _=>mt a1 b)

def lN(do1:(ac→ac→Option (ac×Int)))(a1:ac)(b:ac):Option (ac×Int):=
 (do1 b a1).bind fun r=>
 some (r.1,r.2)

def Dy(do1:(ac→ac→Option (ac×Int))):Option (ac→ac→Option (ac×Int)):=
 some (lN do1)

def px:Option ac:=
 some (⟨(0:Int),(0:Int),(0:Int),[]⟩:ac)

def vb(v:ac):Option ac:=
 some v

def py(b:Bool):Option ac:=
 if b then
 (vb (ac.mk (⟨(1:Int),(0:Int),(0:Int),[]⟩:ac).Kind (1:Int) (⟨(1:Int),(0:Int),(0:Int),[]⟩:ac).U (⟨(1:Int),(0:Int),(0:Int),[]⟩:ac).S))
 else
 (vb (⟨(1:Int),(0:Int),(0:Int),[]⟩:ac))

def jz:List ac→Option Int
 |[]=>
  some (0:Int)
 |e::tl=>
  (lr e).bind fun r=>
  if(r !=(0:Int))then
  (some r)
  else
  ((jz tl))

def pO(l:(List ac)):Option Int:=
 jz l

def nT(p:Int):Option Bool:=
 some (p !=p)

def gX(p:Int)(y:Int):Option Int:=
  (nT p).bind fun r=>
  (nT y).bind fun r1=>
  if r then
  (if r1 then
  (some (0:Int))
  else
  (some (-1:Int)))
  else
  (if r1 then
  (some (1:Int))
  else
  (if(decide (p<y))then
  (some (-1:Int))
  else
  (if(decide (y<p))then
  (some (1:Int))
  else
  (some (0:Int)))))

def gj:List Int→Option Int
 |[]=>
  some (0:Int)
 |e::tl=>
  if(e !=(0:Int))then
  (some e)
  else
  ((gj tl))

def nf(vals:(List Int)):Option Int:=
 gj vals

def li(p:Int):Option Bool:=
 some (p !=p)

def gQ(p:Int)(y:Int):Option Int:=
  (li p).bind fun r=>
  (li y).bind fun r1=>
  if r then
  (if r1 then
  (some (0:Int))
  else
  (some (-1:Int)))
  else
  (if r1 then
  (some (1:Int))
  else
  (if(decide (p<y))then
  (some (-1:Int))
  else
  (if(decide (y<p))then
  (some (1:Int))
  else
  (some (0:Int)))))

def jn(a1:xC)(b:xC):Option Int:=
 some (WH a1 b)

def pp(a1:xC)(b:xC):Option Int:=
 (jn a1 b).bind fun r=>
 some r

def lF(a1:ac)(b:ac):Option Int:=
  (mC a1).bind fun r=>
  (if(!(!r))then((mC b).bind fun r1=>
  some (!r1))else some true).bind fun t=>
  if t then
  (some (0:Int))
  else
  ((gX a1.Kind b.Kind).bind fun r2=>
  (gQ a1.N b.N).bind fun r3=>
  (pp a1.S b.S).bind fun r4=>
  (nf ([r2,r3,r4])).bind fun r5=>
  some r5)

def qT(a1:ac)(b:ac)(is1:(Int→Option Bool)):Option (ac×Int):=
  (pO ([a1,b])).bind fun r=>
  if(r !=(0:Int))then
  (some ((⟨(0:Int),(0:Int),(0:Int),[]⟩:ac),r))
  else
  (if(((a1.Kind==(4:Int))||(b.Kind==(4:Int)))||((!((a1.Kind==(0:Int))||(b.Kind==(0:Int))))&&(a1.Kind !=b.Kind)))then
  (some ((⟨(0:Int),(0:Int),(0:Int),[]⟩:ac),(2:Int)))
  else
  (if((a1.Kind==(0:Int))||(b.Kind==(0:Int)))then
  ((px).bind fun r1=>
  some (r1,(0:Int)))
  else
  ((lF a1 b).bind fun r2=>
  (is1 r2).bind fun r3=>
  (py r3).bind fun r4=>
  some (r4,(0:Int)))))

def Bd(c:Int):Option Bool:=
 some (decide (c<(0:Int)))

def oj(a1:ac)(b:ac):Option (ac×Int):=
 (qT a1 b Bd).bind fun r=>
 some (r.1,r.2)

def na(do1:(ac→Option (ac×Int)))(a1:ac)(x:ac):Option (ac×Int):=
 (do1 a1).bind fun r=>
 some (r.1,r.2)

def AJ(do1:(ac→Option (ac×Int))):Option (ac→ac→Option (ac×Int)):=
 some (na do1)

def oO(n:Int):Option ac:=
 some (⟨(2:Int),n,(0:Int),[]⟩:ac)

def km(kind:Int):List ac→Int→Option Int
  |[],e=>
    some e
  |e1::tl,e=>
    (lr e1).bind fun r=>
    if(r !=(0:Int))then
    (some (120:Int))
    else
    (if((e1.Kind !=(0:Int))&&(e1.Kind !=kind))then
    ((km kind tl) (2:Int))
    else
    ((km kind tl) e))

def pW(kind:Int)(l:(List ac)):Option Int:=
 km kind l (0:Int)

def sk(a1:ac)(b:ac)(to1:(Int→Int→Option (Int×Bool))):Option (ac×Int):=
  (pW (2:Int) ([a1,b])).bind fun r=>
  if(r !=(0:Int))then
  (some ((⟨(0:Int),(0:Int),(0:Int),[]⟩:ac),r))
  else
  (if((a1.Kind==(0:Int))||(b.Kind==(0:Int)))then
  ((px).bind fun r1=>
  some (r1,(0:Int)))
  else
  ((to1 a1.N b.N).bind fun r2=>
  if(!r2.2)then
  (some ((⟨(0:Int),(0:Int),(0:Int),[]⟩:ac),(140:Int)))
  else
  ((oO r2.1).bind fun r3=>
  some (r3,(0:Int)))))

def pX(a1:Int)(b:Int):Option (Int×Bool):=
 some ((IntKind.i64.wrap (a1-b)),decide ((0:Int)≤(fk .and .i64 (fk .xor .i64 a1 b) (fk .xor .i64 a1 (IntKind.i64.wrap (a1-b))))))

def v7(a1:ac)(b:ac):Option (ac×Int):=
 (sk a1 b pX).bind fun r=>
 some (r.1,r.2)

def zn(a1:ac):Option (ac×Int):=
 (oO (0:Int)).bind fun r=>
 (v7 r a1).bind fun r1=>
 some (r1.1,r1.2)

def xV(v:ac):Option Int:=
 if(v.Kind==(0:Int))then
 (some (1:Int))
 else
 (some (IntKind.i64.wrap ((2:Int)*v.N)))

def lZ(to1:((List Int)→Option Int)):List ac→(List Int)→ac→Option (ac×Int)
  |[],n,x=>
    (to1 n).bind fun r1=>
    (cN gv2 r1).bind fun e1=>
    some (e1,(0:Int))
  |e::tl,n,x=>
    if(decide ((1:Int)<e.Kind))then
    (some ((⟨(0:Int),(0:Int),(0:Int),[]⟩:ac),(2:Int)))
    else
    ((xV e).bind fun r2=>
    (app n ([r2])).bind fun n1=>
    (lZ to1 tl) n1 x)

def oh(to1:((List Int)→Option Int))(l:(List ac)):Option (ac×Int):=
 (pO l).bind fun r=>
 if(r !=(0:Int))then
 (some ((⟨(0:Int),(0:Int),(0:Int),[]⟩:ac),r))
 else
 (lZ to1 l ([]:List Int) (⟨(0:Int),(0:Int),(0:Int),[]⟩:ac))

def Dg(l:(List Int)):Option Int:=
 (cN l (0:Int)).bind fun e=>
 some (IntKind.i64.wrap ((2:Int)-e))

def qU(a1:ac):Option (ac×Int):=
 (oh Dg ([a1])).bind fun r=>
 some (r.1,r.2)

def oF(is1:Bool)(a1:ac)(x:ac):Option (ac×Int):=
 (py ((a1.Kind==(0:Int))==is1)).bind fun r=>
 some (r,(0:Int))

def CJ(is1:Bool):Option (ac→ac→Option (ac×Int)):=
 some (oF is1)

def sl(a1:Int)(b:Int):Option (Int×Bool):=
 some ((IntKind.i64.wrap (a1+b)),decide ((0:Int)≤(fk .and .i64 (fk .xor .i64 a1 (IntKind.i64.wrap (a1+b))) (fk .xor .i64 b (IntKind.i64.wrap (a1+b))))))

def CW(a1:ac)(b:ac):Option (ac×Int):=
 (sk a1 b sl).bind fun r=>
 some (r.1,r.2)

def nq(p:Int)(y:Int):Option (Int×Int):=
 some ((IntKind.u64.wrap ((IntKind.u64.wrap ((IntKind.u64.wrap (((p).fdiv (2^(min (Int.toNat (32:Int)) IntKind.u64.bits)))*((y).fdiv (2^(min (Int.toNat (32:Int)) IntKind.u64.bits)))))+(((IntKind.u64.wrap ((IntKind.u64.wrap (((p).fdiv (2^(min (Int.toNat (32:Int)) IntKind.u64.bits)))*(fk .and .u64 y (4294967295:Int))))+(((IntKind.u64.wrap ((fk .and .u64 p (4294967295:Int))*(fk .and .u64 y (4294967295:Int))))).fdiv (2^(min (Int.toNat (32:Int)) IntKind.u64.bits)))))).fdiv (2^(min (Int.toNat (32:Int)) IntKind.u64.bits)))))+(((IntKind.u64.wrap ((fk .and .u64 (IntKind.u64.wrap ((IntKind.u64.wrap (((p).fdiv (2^(min (Int.toNat (32:Int)) IntKind.u64.bits)))*(fk .and .u64 y (4294967295:Int))))+(((IntKind.u64.wrap ((fk .and .u64 p (4294967295:Int))*(fk .and .u64 y (4294967295:Int))))).fdiv (2^(min (Int.toNat (32:Int)) IntKind.u64.bits))))) (4294967295:Int))+(IntKind.u64.wrap ((fk .and .u64 p (4294967295:Int))*((y).fdiv (2^(min (Int.toNat (32:Int)) IntKind.u64.bits)))))))).fdiv (2^(min (Int.toNat (32:Int)) IntKind.u64.bits))))),(IntKind.u64.wrap (p*y)))

def pL(n:Int):Option Int:=
 if(decide (n<(0:Int)))then
 (some (IntKind.u64.wrap (0-(IntKind.u64.wrap n))))
 else
 (some (IntKind.u64.wrap n))

def nj(u:Int)(below:Bool):Option (Int×Bool):=
 if below then
 (some ((IntKind.i64.wrap (IntKind.u64.wrap (0-u))),decide (u≤(9223372036854775808:Int))))
 else
 (some ((IntKind.i64.wrap u),decide (u≤(9223372036854775807:Int))))

def mI(a1:Int)(b:Int):Option (Int×Bool):=
 (pL a1).bind fun r=>
 (pL b).bind fun r1=>
 (nq r r1).bind fun r2=>
 (nj r2.2 ((decide (a1<(0:Int))) !=(decide (b<(0:Int))))).bind fun r3=>
 some (r3.1,(r3.2&&(r2.1==(0:Int))))

def CU(a1:ac)(b:ac):Option (ac×Int):=
 (sk a1 b mI).bind fun r=>
 some (r.1,r.2)

def mJ(a1:Int)(b:Int):Option (Int×Bool):=
  if(b==(0:Int))then
  (some ((0:Int),false))
  else
  ((pL a1).bind fun r=>
  (pL b).bind fun r1=>
  (nz r1).bind fun _=>
  (nj (IntKind.u64.wrap ((r).tdiv r1)) ((decide (a1<(0:Int))) !=(decide (b<(0:Int))))).bind fun r2=>
  some (r2.1,r2.2))

def CV(a1:ac)(b:ac):Option (ac×Int):=
 (sk a1 b mJ).bind fun r=>
 some (r.1,r.2)

def zR(c:Int):Option Bool:=
 some (c==(0:Int))

def rP(a1:ac)(b:ac):Option (ac×Int):=
 (qT a1 b zR).bind fun r=>
 some (r.1,r.2)

def ui(do1:(ac→ac→Option (ac×Int)))(a1:ac)(b:ac):Option (ac×Int):=
  (do1 a1 b).bind fun r=>
  if(r.2 !=(0:Int))then
  (some (r.1,r.2))
  else
  ((qU r.1).bind fun r1=>
  some (r1.1,r1.2))

def BM(do1:(ac→ac→Option (ac×Int))):Option (ac→ac→Option (ac×Int)):=
 some (ui do1)

def Dh(l:(List Int)):Option Int:=
 (cN l (0:Int)).bind fun e=>
 (cN l (1:Int)).bind fun e1=>
 some (min e e1)

def s9(a1:ac)(b:ac):Option (ac×Int):=
 (oh Dh ([a1,b])).bind fun r=>
 some (r.1,r.2)

def EI(l:(List Int)):Option Int:=
 (cN l (0:Int)).bind fun e=>
 (cN l (1:Int)).bind fun e1=>
 some (max e e1)

def vz(a1:ac)(b:ac):Option (ac×Int):=
 (oh EI ([a1,b])).bind fun r=>
 some (r.1,r.2)

def zi:Option (List (Int×(ac→ac→Option (ac×Int)))):=
 (Dy oj).bind fun r=>
 (AJ zn).bind fun r1=>
 (AJ qU).bind fun r2=>
 (CJ true).bind fun r3=>
 (CJ false).bind fun r4=>
 (BM rP).bind fun r5=>
 (BM r).bind fun r6=>
 (BM oj).bind fun r7=>
 some (dw (dw (dw (dw (dw (dw (dw (dw (dw (dw (dw (dw (dw (dw (dw (dw ([]:List (Int×(ac→ac→Option (ac×Int)))) (4:Int) r1) (5:Int) r2) (6:Int) r3) (7:Int) r4) (12:Int) CW) (13:Int) v7) (14:Int) CU) (15:Int) CV) (16:Int) rP) (17:Int) r5) (18:Int) oj) (20:Int) r) (19:Int) r6) (21:Int) r7) (22:Int) s9) (23:Int) vz)

def fP(s:(List ac)):Option (List ac):=
 (app ([]:List ac) s).bind fun x=>
 some x

def k6(stack:(List ac))(k:Int):Option ((List ac)×(List ac)):=
 (dE stack (IntKind.i64.wrap ((stack.length:Int)-k)) (stack.length:Int)).bind fun y=>
 (fP y).bind fun r=>
 (dE stack 0 (IntKind.i64.wrap ((stack.length:Int)-k))).bind fun y1=>
 some (r,y1)

def gB(bad:Int)(stack:List ac):Option (ac×Int):=
  if(bad !=(0:Int))then
  (some ((⟨(0:Int),(0:Int),(0:Int),[]⟩:ac),bad))
  else
  ((cN stack (0:Int)).bind fun e1=>
  some (e1,(0:Int)))

def dH(do1:(bp→(List ac)→Option (ac×Int))):List bp→Int→(List ac)→Option (ac×Int)
  |[],bad1,stack1=>
    gB bad1 stack1
  |e2::tl,bad1,stack1=>
    (pK e2.Tag).bind fun r=>
    (k6 stack1 r).bind fun r1=>
    (do1 e2 r1.1).bind fun r2=>
    if(r2.2 !=(0:Int))then
    (gB r2.2 r1.2)
    else
    ((app r1.2 ([r2.1])).bind fun l2=>
    (dH do1 tl) bad1 l2)

def iS(e:bJ)(do1:(bp→(List ac)→Option (ac×Int))):Option (ac×Int):=
 dH do1 e.Nodes (0:Int) ([]:List ac)

def qz(r1:ac×Int)(no:Int):Option (ac×Int):=
 some (r1.1,no)

def i6(r:(List ac))(do1:(List (Int×(ac→ac→Option (ac×Int)))))(n:bp)(l:(List ac)):Option (ac×Int):=
  if(n.Tag==(1:Int))then
  (some (n.Value,(0:Int)))
  else
  (if(n.Tag==(2:Int))then
  ((cN r n.Col).bind fun e=>
  some (e,(0:Int)))
  else
  ((cN l (0:Int)).bind fun e1=>
  (cN l (IntKind.i64.wrap ((l.length:Int)-(1:Int)))).bind fun e2=>
  (((pH do1 n.Tag).getD (fun _ _=>none)) e1 e2).bind fun r1=>
  if((r1.2 !=(0:Int))&&(r1.2 !=(140:Int)))then
  (qz r1 (201:Int))
  else
  (qz r1 r1.2)))

def oW(e:bJ)(r:(List ac)):List Int→ac→Option (ac×Int)
  |[],x=>
    (zi).bind fun r3=>
    (iS e (i6 r r3)).bind fun r4=>
    some (r4.1,r4.2)
  |e1::tl,x=>
    (if(!(decide ((r.length:Int)≤e1)))then((cN r e1).bind fun e2=>
    (mC e2).bind fun r5=>
    some (!r5))else some true).bind fun t=>
    if t then
    (some ((⟨(0:Int),(0:Int),(0:Int),[]⟩:ac),(2:Int)))
    else
    ((oW e r tl) x)

def tq(e:bJ)(r:(List ac)):Option (ac×Int):=
  (rm e).bind fun r1=>
  if(r1 !=(0:Int))then
  (some ((⟨(0:Int),(0:Int),(0:Int),[]⟩:ac),r1))
  else
  ((tt e).bind fun r2=>
  oW e r r2 (⟨(0:Int),(0:Int),(0:Int),[]⟩:ac))

def wt(a1:ac):Option Bool:=
 (py true).bind fun r=>
 some (decide (a1=r))

def qB(e:bJ)(r:(List ac)):Option (Bool×Int):=
 (tq e r).bind fun r1=>
 (wt r1.1).bind fun r2=>
 some (r2,r1.2)

def hT(n:aj)(x:Int×(List ac))(xs:List (List ac))(xs1:List Bool)(x1:Int)(x2:(List (List ac))):Option (Option Nat×(List (List ac)×List Bool×Int×(List (List ac)))):=
  (qB n.Cond x.2).bind fun r3=>
  if(r3.2 !=(0:Int))then
  (some (some 0,(xs,xs1,r3.2,[])))
  else
  (if r3.1 then
  ((cN xs1 x.1).bind fun e2=>
  (some (xs1.set x.1.toNat true)).bind fun st=>
  (app xs ([x.2])).bind fun l2=>
  some (none,(l2,st,x1,x2)))
  else
  (some (none,(xs,xs1,x1,x2))))

def hM(r:cZ)(n:aj)(r1:(Option Nat×(List (List ac)×List Bool×Int×(List (List ac))))×Unit):List (List ac)→Nat→(List (List ac))→Option ((List (List ac))×Int)
  |[],i2,out=>
    some (out,(0:Int))
  |e3::tl,i2,out=>
    (if n.Left then((cN r1.1.2.2.1 (i2:Int)).bind fun e4=>
    some (!e4))else some false).bind fun t=>
    if t then
    ((cN r.width n.B).bind fun e5=>
    (oe e5 (⟨(0:Int),(0:Int),(0:Int),[]⟩:ac)).bind fun mk1=>
    (dC ([e3,mk1])).bind fun r4=>
    (app out ([r4])).bind fun l7=>
    (hM r n r1 tl) (i2+1) l7)
    else
    ((hM r n r1 tl) (i2+1) out)

def jT(r:cZ)(n:aj):Option ((List (List ac))×Int):=
  (cN r.rows n.A).bind fun e=>
  (cN r.rows n.B).bind fun e1=>
  if(decide ((40000:Int)<(IntKind.i64.wrap ((e.length:Int)*(e1.length:Int)))))then
  (some ([],(3:Int)))
  else
  ((oe (e.length:Int) false).bind fun mk=>
  (wU e e1).bind fun it=>
  ((itU it) (Option Nat×(List (List ac)×List Bool×Int×(List (List ac)))) (xm (fun x s=>hT n x s.1 s.2.1 s.2.2.1 s.2.2.2)) (none,(([]:List (List ac)),mk,(0:Int),[]))).bind fun r1=>
  if r1.1.1.isNone then
  (hM r n r1 e 0 r1.1.2.1)
  else
  (some (r1.1.2.2.2.2,r1.1.2.2.2.1)))

def gg(n:aj):List (List ac)→(List (List ac))→Option ((List (List ac))×Int)
  |[],out=>
    some (out,(0:Int))
  |e1::tl,out=>
    (qB n.Cond e1).bind fun r1=>
    if(r1.2 !=(0:Int))then
    (some ([],r1.2))
    else
    (if r1.1 then
    ((app out ([e1])).bind fun out1=>
    (gg n tl) out1)
    else
    ((gg n tl) out))

def jP(r:cZ)(n:aj):Option ((List (List ac))×Int):=
 (cN r.rows n.A).bind fun e=>
 gg n e ([]:List (List ac))

def jK(a1:hU):List (List ac)→(List ac)→Int→Option ((List ac)×Int)
  |[],out,fault=>
    some (out,fault)
  |e::tl,out,fault=>
    (tq a1.Arg e).bind fun r=>
    if(r.2==(140:Int))then
    ((jK a1 tl) out r.2)
    else
    (if(r.2 !=(0:Int))then
    (some ([],(2:Int)))
    else
    (if(r.1.Kind !=(0:Int))then
    ((app out ([r.1])).bind fun out1=>
    (jK a1 tl) out1 fault)
    else
    ((jK a1 tl) out fault)))

def yF(a1:hU)(rows:(List (List ac))):Option ((List ac)×Int):=
 jK a1 rows ([]:List ac) (0:Int)

def ne(v:ac):Option Bool:=
 some (v.Kind !=(2:Int))

def dc(f:(ac→Option Bool)):List ac→Nat→Option Int
 |[],i=>
  some (-1:Int)
 |e::tl,i=>
  (f e).bind fun r=>
  if r then
  (some (i:Int))
  else
  ((dc f tl) (i+1))

def gH(s:(List ac))(f:(ac→Option Bool)):Option Int:=
 dc f s 0

def dY(s:(List ac))(f:(ac→Option Bool)):Option Bool:=
 (gH s f).bind fun r=>
 some (decide ((0:Int)≤r))

def rq(v:ac):Option ac:=
 some (⟨(4:Int),((v.N).fdiv (2^(min (Int.toNat (63:Int)) IntKind.i64.bits))),(IntKind.u64.wrap v.N),[]⟩:ac)

def w7(s:ac)(t:ac):Option (ac×Int):=
 (Mc s.U t.U (0:Int)).bind fun r=>
 (Mc (IntKind.u64.wrap s.N) (IntKind.u64.wrap t.N) r.2).bind fun r1=>
 if(decide ((fk .and .i64 (fk .xor .i64 s.N (IntKind.i64.wrap r1.1)) (fk .xor .i64 t.N (IntKind.i64.wrap r1.1)))<(0:Int)))then
 (some ((⟨(0:Int),(0:Int),(0:Int),[]⟩:ac),(140:Int)))
 else
 (some ((⟨(4:Int),(IntKind.i64.wrap r1.1),r.1,[]⟩:ac),(0:Int)))

def tu(s:ac)(v:ac):Option (ac×Int):=
  (pW (4:Int) ([s])).bind fun r=>
  (pW (2:Int) ([v])).bind fun r1=>
  if((r==(120:Int))||(r1==(120:Int)))then
  (some ((⟨(0:Int),(0:Int),(0:Int),[]⟩:ac),(120:Int)))
  else
  (if((r !=(0:Int))||(r1 !=(0:Int)))then
  (some ((⟨(0:Int),(0:Int),(0:Int),[]⟩:ac),(2:Int)))
  else
  (if(v.Kind==(0:Int))then
  (some (s,(0:Int)))
  else
  (if(s.Kind==(0:Int))then
  ((rq v).bind fun r2=>
  some (r2,(0:Int)))
  else
  ((rq v).bind fun r3=>
  (w7 s r3).bind fun r4=>
  some (r4.1,r4.2)))))

def zp(s:ac):Option (ac×Int):=
  (pW (4:Int) ([s])).bind fun r=>
  if(r !=(0:Int))then
  (some ((⟨(0:Int),(0:Int),(0:Int),[]⟩:ac),r))
  else
  (if(s.Kind==(0:Int))then
  (some (s,(0:Int)))
  else
  ((oO (IntKind.i64.wrap s.U)).bind fun r1=>
  (rq r1).bind fun r2=>
  if(decide (r2=s))then
  (some (r1,(0:Int)))
  else
  (some ((⟨(0:Int),(0:Int),(0:Int),[]⟩:ac),(140:Int)))))

def nk:List ac→ac→ac→Option (ac×Int)
 |[],x,s=>
  (zp s).bind fun r1=>
  some (r1.1,r1.2)
 |e::tl,x,s=>
  (tu s e).bind fun r2=>
  if(r2.2 !=(0:Int))then
  (some (r2.1,r2.2))
  else
  ((nk tl) x r2.1)

def zq(l:(List ac)):Option (ac×Int):=
  if(decide ((1048576:Int)<(l.length:Int)))then
  (some ((⟨(0:Int),(0:Int),(0:Int),[]⟩:ac),(3:Int)))
  else
  ((px).bind fun r=>
  nk l (⟨(0:Int),(0:Int),(0:Int),[]⟩:ac) r)

def cH(cmp:(ac→ac→Option Int)):List ac→ac→Option ac
 |[],m=>
  some m
 |e1::tl,m=>
  (cmp e1 m).bind fun r=>
  if(decide (r<(0:Int)))then
  ((cH cmp tl) e1)
  else
  ((cH cmp tl) m)

def gq(p:(List ac))(cmp:(ac→ac→Option Int)):Option ac:=
 (cN p (0:Int)).bind fun e=>
 cH cmp (p.drop (1)) e

def eX(p:(List ac))(cmp:(ac→ac→Option Int)):Option ac:=
 if(decide ((p.length:Int)<(1:Int)))then
 (none)
 else
 (gq p cmp)

def rR(v:ac):Option Bool:=
 (lr v).bind fun r=>
 some (r !=(0:Int))

def cJ(f:(ac→Option Bool)):List ac→Nat→Option Int
 |[],i=>
  some (-1:Int)
 |e::tl,i=>
  (f e).bind fun r=>
  if r then
  (some (i:Int))
  else
  ((cJ f tl) (i+1))

def kR(s:(List ac))(f:(ac→Option Bool)):Option Int:=
 cJ f s 0

def gu(s:(List ac))(f:(ac→Option Bool)):Option Bool:=
 (kR s f).bind fun r=>
 some (decide ((0:Int)≤r))

def qX(r:(List ac)):Option Bool:=
  (if(decide ((r.length:Int)≤(16:Int)))then((gu r rR).bind fun r1=>
  some (!r1))else some false).bind fun t=>
  some t

def bK(s1:(List ac))(s2:(List ac))(cmp:(ac→ac→Option Int)):List ac→Nat→Option Int
  |[],i=>
    if(decide ((s1.length:Int)<(s2.length:Int)))then
    (some (-1:Int))
    else
    (some (0:Int))
  |e::tl,i=>
    if(decide ((s2.length:Int)≤(i:Int)))then
    (some (1:Int))
    else
    ((cN s2 (i:Int)).bind fun e1=>
    (cmp e e1).bind fun r=>
    if(r !=(0:Int))then
    (some r)
    else
    ((bK s1 s2 cmp tl) (i+1)))

def cu(s1:(List ac))(s2:(List ac))(cmp:(ac→ac→Option Int)):Option Int:=
 bK s1 s2 cmp s1 0

def oY(p:Int):Option Bool:=
 some (p !=p)

def nh(p:Int)(y:Int):Option Int:=
  (oY p).bind fun r=>
  (oY y).bind fun r1=>
  if r then
  (if r1 then
  (some (0:Int))
  else
  (some (-1:Int)))
  else
  (if r1 then
  (some (1:Int))
  else
  (if(decide (p<y))then
  (some (-1:Int))
  else
  (if(decide (y<p))then
  (some (1:Int))
  else
  (some (0:Int)))))

def oZ(p:xC):Option Bool:=
 some (!(p==p))

def ni(p:xC)(y:xC):Option Int:=
  (oZ p).bind fun r=>
  (oZ y).bind fun r1=>
  if r then
  (if r1 then
  (some (0:Int))
  else
  (some (-1:Int)))
  else
  (if r1 then
  (some (1:Int))
  else
  (if(Op.bytesLess p y)then
  (some (-1:Int))
  else
  (if(!(Op.bytesLess p y||p==y))then
  (some (1:Int))
  else
  (some (0:Int)))))

def pD(a1:ac)(b:ac):Option Int:=
 (gX a1.Kind b.Kind).bind fun r=>
 (gQ a1.N b.N).bind fun r1=>
 (nh a1.U b.U).bind fun r2=>
 (ni a1.S b.S).bind fun r3=>
 (nf ([r,r1,r2,r3])).bind fun r4=>
 some r4

def pQ(a1:(List ac))(b:(List ac)):Option Int:=
 (cu a1 b pD).bind fun r=>
 some r

def ou(a1:(List ac))(b:(List ac)):Option Int:=
  (qX a1).bind fun r=>
  (if(!(!r))then((qX b).bind fun r1=>
  some (!r1))else some true).bind fun t=>
  if t then
  (some (0:Int))
  else
  ((pQ a1 b).bind fun r2=>
  some r2)

def iB(a1:ac)(b:ac):Option Int:=
 (ou ([a1]) ([b])).bind fun r=>
 some r

def cI(cmp:(ac→ac→Option Int)):List ac→ac→Option ac
 |[],m=>
  some m
 |e1::tl,m=>
  (cmp e1 m).bind fun r=>
  if(decide ((0:Int)<r))then
  ((cI cmp tl) e1)
  else
  ((cI cmp tl) m)

def gr(p:(List ac))(cmp:(ac→ac→Option Int)):Option ac:=
 (cN p (0:Int)).bind fun e=>
 cI cmp (p.drop (1)) e

def eY(p:(List ac))(cmp:(ac→ac→Option Int)):Option ac:=
 if(decide ((p.length:Int)<(1:Int)))then
 (none)
 else
 (gr p cmp)

def mw(a1:hU)(rows:(List (List ac))):Option (ac×Int):=
  if(a1.Tag==(1:Int))then
  ((oO (rows.length:Int)).bind fun r=>
  some (r,(0:Int)))
  else
  ((yF a1 rows).bind fun r1=>
  if(r1.2==(2:Int))then
  (some ((⟨(0:Int),(0:Int),(0:Int),[]⟩:ac),r1.2))
  else
  ((if(a1.Tag==(3:Int))then((dY r1.1 ne).bind fun r2=>
  some r2)else some false).bind fun t=>
  if t then
  (some ((⟨(0:Int),(0:Int),(0:Int),[]⟩:ac),(2:Int)))
  else
  (if(r1.2 !=(0:Int))then
  (some ((⟨(0:Int),(0:Int),(0:Int),[]⟩:ac),r1.2))
  else
  (if(a1.Tag==(2:Int))then
  ((oO (r1.1.length:Int)).bind fun r3=>
  some (r3,(0:Int)))
  else
  (if(a1.Tag==(3:Int))then
  ((zq r1.1).bind fun r4=>
  some (r4.1,r4.2))
  else
  (if((r1.1.length:Int)==(0:Int))then
  (some ((⟨(0:Int),(0:Int),(0:Int),[]⟩:ac),(0:Int)))
  else
  (if(a1.Tag==(4:Int))then
  ((eX r1.1 iB).bind fun r5=>
  some (r5,(0:Int)))
  else
  ((eY r1.1 iB).bind fun r6=>
  some (r6,(0:Int))))))))))

def qg(nx:Int→Option Int)(e:(List (List ac)))(n:Int):List (List ac)→Option Int
 |[]=>
  nx (max n (e.length:Int))
 |e1::tl1=>
  (qX e1).bind fun r=>
  if(!r)then
  (some (150:Int))
  else
  ((qg nx e n tl1))

def lx:List (List (List ac))→Int→Option Int
 |[],n=>
  if(decide ((8000:Int)<n))then
  (some (3:Int))
  else
  (some (0:Int))
 |e::tl,n=>
  qg (lx tl) e n e

def vG(l:(List (List (List ac)))):Option Int:=
 lx l (0:Int)

def uI(c:Int):Option Bool:=
 some (decide (c<(0:Int)))

def yY(r:(List ac))(c:Int):Option Bool:=
 some ((decide (c<(0:Int)))||(decide ((r.length:Int)≤c)))

def D6(r:(List ac))(columns:(List Int)):Option Bool:=
  (if(decide ((columns.length:Int)≤(16:Int)))then((cE columns (yY r)).bind fun r1=>
  some (!r1))else some false).bind fun t=>
  some t

def qh(columns:(List Int)):List (List ac)→Option Int
 |[]=>
  some (0:Int)
 |e::tl=>
  (D6 e columns).bind fun r2=>
  if(!r2)then
  (some (2:Int))
  else
  ((qh columns tl))

def yZ(l:(List (List ac)))(columns:(List Int)):Option Int:=
  (vG ([l])).bind fun r=>
  if(r !=(0:Int))then
  (some r)
  else
  ((if(!(decide ((16:Int)<(columns.length:Int))))then((cE columns uI).bind fun r1=>
  some r1)else some true).bind fun t=>
  if t then
  (some (2:Int))
  else
  (qh columns l))

def cA(s:(List ac)):Option (List ac):=
 (app ([]:List ac) s).bind fun x=>
 some x

def nJ:List (List ac)→(List (List ac))→Option (List (List ac))
 |[],out=>
  some out
 |e::tl,out=>
  (cA e).bind fun r=>
  (app out ([r])).bind fun out1=>
  (nJ tl) out1

def tN(l:(List (List ac))):Option (List (List ac)):=
 nJ l ([]:List (List ac))

def mD(r:(List ac)):List Int→(List ac)→Option (List ac)
 |[],out=>
  some out
 |e::tl,out=>
  (cN r e).bind fun e1=>
  (app out ([e1])).bind fun out1=>
  (mD r tl) out1

def ot(r:(List ac))(columns:(List Int)):Option (List ac):=
 mD r columns ([]:List ac)

def mQ(columns:(List Int))(a1:(List ac))(b:(List ac)):Option Int:=
 (ot a1 columns).bind fun r=>
 (ot b columns).bind fun r1=>
 (pQ r r1).bind fun r2=>
 (pQ a1 b).bind fun r3=>
 (nf ([r2,r3])).bind fun r4=>
 some r4

def dX(s2:(List ac)):List ac→Nat→Option Bool
 |[],i=>
  some true
 |e::tl,i=>
  (cN s2 (i:Int)).bind fun e1=>
  if(!decide (e=e1))then
  (some false)
  else
  ((dX s2 tl) (i+1))

def jk(s1:(List ac))(s2:(List ac)):Option Bool:=
 if((s1.length:Int) !=(s2.length:Int))then
 (some false)
 else
 (dX s2 s1 0)

def pR(a1:(List ac))(b:(List ac)):Option Bool:=
 (jk a1 b).bind fun r=>
 some r

def gv(columns:(List Int))(a1:(List ac))(b:(List ac)):Option Bool:=
 (ot a1 columns).bind fun r=>
 (ot b columns).bind fun r1=>
 (pR r r1).bind fun r2=>
 some r2

def nI{Sg:Type}(alike:((List ac)→(List ac)→Option Bool))(yld:(List (List ac))→Sg→Option (Bool×Sg))(nx:Sg→(List (List ac))→Option Sg)(s1:Sg)(x:(List (List ac))):Nat→Int→Option Sg
  |0,_=>none
  |n2+1,n1=>
    (if(decide (n1<(x.length:Int)))then((cN x (0:Int)).bind fun e2=>
    (cN x n1).bind fun e3=>
    (alike e2 e3).bind fun r=>
    some r)else some false).bind fun t=>
    if t then
    ((nI alike yld nx s1 x n2) (IntKind.i64.wrap (n1+(1:Int))))
    else
    ((dE x 0 n1).bind fun y=>
    (yld (y) s1).bind fun r1=>
    if(!r1.1)then
    (some r1.2)
    else
    ((dE x n1 (x.length:Int)).bind fun y1=>
    nx r1.2 y1))

def kq{Sg:Type}(alike:((List ac)→(List ac)→Option Bool))(yld:(List (List ac))→Sg→Option (Bool×Sg)):Nat→Sg→(List (List ac))→Option Sg
 |0,_,_=>none
 |n+1,s1,x=>
  if(decide ((0:Int)<(x.length:Int)))then
  (nI alike yld (kq alike yld n) s1 x iN (1:Int))
  else
  (some s1)

def wA{Sg:Type}(l:(List (List ac)))(alike:((List ac)→(List ac)→Option Bool))(yld:(List (List ac))→Sg→Option (Bool×Sg))(s:Sg):Option Sg:=
 kq alike yld iN s l

def E4(l:(List (List ac)))(alike:((List ac)→(List ac)→Option Bool)):Option (It (List (List ac))):=
 some (fun _=>wA l alike)

def ff(s:(List (List ac))):Option (List (List ac)):=
 (app ([]:List (List ac)) s).bind fun x=>
 some x

def ku(columns:(List Int))(x:(List (List ac)))(xs:List iw):Option (List iw):=
 (cN x (0:Int)).bind fun e=>
 (ot e columns).bind fun r2=>
 (ff x).bind fun r3=>
 (app xs ([(⟨r2,r3⟩:iw)])).bind fun l3=>
 some l3

def tP(l:(List (List ac)))(columns:(List Int)):Option ((List iw)×Int):=
  (yZ l columns).bind fun r=>
  if(r !=(0:Int))then
  (some ([],r))
  else
  ((tN l).bind fun r1=>
  (zX (fun(x:(List ac)×(List ac))=>(mQ columns) x.1 x.2) r1).bind fun rQ=>
  (E4 rQ (gv columns)).bind fun it=>
  (it (List iw) (DF (fun x s=>ku columns x s)) ([]:List iw)).bind fun xs1=>
  some (xs1,(0:Int)))

def iT(nx:(List (List ac))→Option ((List (List ac))×Int))(e1:iw)(out:List (List ac)):List hU→(List ac)→Option ((List (List ac))×Int)
  |[],x=>
    (app out ([x])).bind fun out1=>
    nx out1
  |e2::tl1,x=>
    (mw e2 e1.Rows).bind fun r3=>
    if(r3.2 !=(0:Int))then
    (some ([],r3.2))
    else
    ((app x ([r3.1])).bind fun x1=>
    (iT nx e1 out tl1) x1)

def fD(n:aj):List iw→(List (List ac))→Option ((List (List ac))×Int)
 |[],out=>
  some (out,(0:Int))
 |e1::tl,out=>
  (cA e1.Key).bind fun r2=>
  iT (fD n tl) e1 out n.Aggs r2

def lW(n:aj)(groups:(List iw)):Option ((List (List ac))×Int):=
 fD n groups ([]:List (List ac))

def jp(r:cZ)(n:aj):Option ((List (List ac))×Int):=
  (cN r.rows n.A).bind fun e=>
  (tP e n.Keys).bind fun r1=>
  if(r1.2 !=(0:Int))then
  (some ([],r1.2))
  else
  (if(((n.Keys.length:Int)==(0:Int))&&((r1.1.length:Int)==(0:Int)))then
  (lW n ([(⟨[],[]⟩:iw)]))
  else
  (lW n r1.1))

def gT(nx:(List (List ac))→Option ((List (List ac))×Int))(e1:(List ac))(out:List (List ac)):List bJ→(List ac)→Option ((List (List ac))×Int)
  |[],y=>
    (app out ([y])).bind fun out1=>
    nx out1
  |e2::tl1,y=>
    (tq e2 e1).bind fun r1=>
    if(r1.2 !=(0:Int))then
    (some ([],r1.2))
    else
    ((app y ([r1.1])).bind fun y1=>
    (gT nx e1 out tl1) y1)

def fJ(n:aj):List (List ac)→(List (List ac))→Option ((List (List ac))×Int)
 |[],out=>
  some (out,(0:Int))
 |e1::tl,out=>
  gT (fJ n tl) e1 out n.Items ([]:List ac)

def jo(r:cZ)(n:aj):Option ((List (List ac))×Int):=
 (cN r.rows n.A).bind fun e=>
 fJ n e ([]:List (List ac))

def tM(l:(List (List ac))):Option (List (List ac)):=
 (tN l).bind fun r=>
 (zX (fun(x:(List ac)×(List ac))=>pQ x.1 x.2) r).bind fun rQ=>
 some rQ

def cg(eq:((List ac)→(List ac)→Option Bool))(i:Nat)(y:List (List ac)):Nat→Nat→(List (List ac))→Int→Option (List (List ac))
  |0,i1,s1,k=>
    (dE s1 k (s1.length:Int)).bind fun y1=>
    (some (s1.take k.toNat++List.replicate y1.length ([]))).bind fun cl=>
    (dE cl 0 k).bind fun y2=>
    some y2
  |k2+1,i1,s1,k=>
    (yx s1 (i:Int) y.length (i1:Int)).bind fun e3=>
    (yx s1 (i:Int) y.length (IntKind.i64.wrap ((i1:Int)-(1:Int)))).bind fun e4=>
    (eq e3 e4).bind fun r1=>
    if(!r1)then
    ((yx s1 (i:Int) y.length (i1:Int)).bind fun e5=>
    (cN s1 k).bind fun e6=>
    (some (s1.set k.toNat e5)).bind fun st=>
    (cg eq i y k2) (i1+1) st (IntKind.i64.wrap (k+(1:Int))))
    else
    ((cg eq i y k2) (i1+1) s1 k)

def cK(s:(List (List ac)))(eq:((List ac)→(List ac)→Option Bool)):List (List ac)→Nat→Option (List (List ac))
  |[],i=>
    some s
  |e::tl,i=>
    (cN s (IntKind.i64.wrap ((i:Int)-(1:Int)))).bind fun e1=>
    (eq e e1).bind fun r=>
    if r then
    ((dE s (i:Int) (s.length:Int)).bind fun y=>
    cg eq i y (y.length-1) 1 s (i:Int))
    else
    ((cK s eq tl) (i+1))

def fb(s:(List (List ac)))(eq:((List ac)→(List ac)→Option Bool)):Option (List (List ac)):=
 if(decide ((s.length:Int)<(2:Int)))then
 (some s)
 else
 (cK s eq (s.drop (1)) 1)

def sT(l:(List (List ac))):Option ((List (List ac))×Int):=
  (vG ([l])).bind fun r=>
  if(r !=(0:Int))then
  (some ([],r))
  else
  ((tM l).bind fun r1=>
  (fb r1 pR).bind fun r2=>
  some (r2,(0:Int)))

def iU(r:cZ)(n:aj):Option ((List (List ac))×Int):=
 (cN r.rows n.A).bind fun e=>
 (sT e).bind fun r1=>
 some (r1.1,r1.2)

def ji(s:List (List ac)):Option (List (List ac)):=
 some s

def jj(n:Int):Option (List (List ac)):=
  if(decide ((0:Int)<(IntKind.i64.wrap (n-(IntKind.i64.wrap ((0:Int)-(0:Int)))))))then
  ((Xv (IntKind.i64.wrap (n-(IntKind.i64.wrap ((0:Int)-(0:Int)))))).bind fun _=>
  (oe (IntKind.i64.wrap (n-(IntKind.i64.wrap ((0:Int)-(0:Int))))) ([])).bind fun mk=>
  (dE mk 0 (0:Int)).bind fun y=>
  ji y)
  else
  (ji ([]:List (List ac)))

def io(n:Int):Option (List (List ac)):=
 if(decide (n<(0:Int)))then
 (none)
 else
 (jj n)

def fN:List (List (List ac))→(List (List ac))→Option (List (List ac))
 |[],newslice=>
  some newslice
 |e1::tl1,newslice=>
  (app newslice e1).bind fun newslice1=>
  (fN tl1) newslice1

def fO(slices:(List (List (List ac)))):List (List (List ac))→Int→Option (List (List ac))
 |[],size=>
  (io size).bind fun r=>
  fN slices r
 |e::tl,size=>
  if(decide ((IntKind.i64.wrap (size+(e.length:Int)))<(0:Int)))then
  (none)
  else
  ((fO slices tl) (IntKind.i64.wrap (size+(e.length:Int))))

def eQ(slices:(List (List (List ac)))):Option (List (List ac)):=
 fO slices slices (0:Int)

def kG(r:cZ)(n:aj):Option ((List (List ac))×Int):=
 (cN r.rows n.A).bind fun e=>
 (cN r.rows n.B).bind fun e1=>
 (eQ ([e,e1])).bind fun r1=>
 some (r1,(0:Int))

def oH(nx:Option Int)(n:Int):Option Int:=
 if(n !=(0:Int))then
 (some n)
 else
 (nx)

def jJ(a1:(List ac))(b:(List ac)):List fq→Option Int
 |[]=>
  (ou a1 b).bind fun r=>
  some r
 |e::tl=>
  (cN a1 e.Col).bind fun e1=>
  (cN b e.Col).bind fun e2=>
  (iB e1 e2).bind fun r1=>
  if e.Desc then
  (oH (jJ a1 b tl) (IntKind.i64.wrap (0-r1)))
  else
  (oH (jJ a1 b tl) r1)

def mH(order:(List fq))(a1:(List ac))(b:(List ac)):Option Int:=
 jJ a1 b order

def vX(order:(List fq)):Option ((List ac)→(List ac)→Option Int):=
 some (mH order)

def oX(out1:List (List ac)):Option (List (List ac)):=
 some out1

def kF(order:(List fq))(limit:Int):List (List ac)→(List (List ac))→Option (List (List ac))
  |[],out=>
    (vX order).bind fun r=>
    (zX (fun(x:(List ac)×(List ac))=>r x.1 x.2) out).bind fun rQ=>
    if((decide ((0:Int)≤limit))&&(decide (limit<(rQ.length:Int))))then
    ((dE rQ 0 limit).bind fun y=>
    oX y)
    else
    (oX rQ)
  |e::tl,out=>
    (cA e).bind fun r1=>
    (app out ([r1])).bind fun out2=>
    (kF order limit tl) out2

def pi(rows:(List (List ac)))(order:(List fq))(limit:Int):Option (List (List ac)):=
 kF order limit rows ([]:List (List ac))

def kH(r:cZ)(n:aj):Option ((List (List ac))×Int):=
 (cN r.rows n.A).bind fun e=>
 (pi e n.Order n.Limit).bind fun r1=>
 some (r1,(0:Int))

def wE(l:(List (List ac))):Option ((List (List ac))×Int):=
  (vG ([l])).bind fun r=>
  if(r !=(0:Int))then
  (some ([],r))
  else
  ((tM l).bind fun r1=>
  some (r1,(0:Int)))

def d4(s:(List fq)):Option (List fq):=
 (app ([]:List fq) s).bind fun x=>
 some x

def cn(s:(List bp)):Option (List bp):=
 (app ([]:List bp) s).bind fun x=>
 some x

def fg(s:(List hU)):Option (List hU):=
 (app ([]:List hU) s).bind fun x=>
 some x

def ep(s:(List bJ)):Option (List bJ):=
 (app ([]:List bJ) s).bind fun x=>
 some x

def nr:List bJ→Nat→aj→Option aj
 |[],i1,n4=>
  some n4
 |e1::tl1,i1,n4=>
  (cN n4.Items (i1:Int)).bind fun e2=>
  (cn e2.Nodes).bind fun r6=>
  (some (n4.Items.set (i1:Int).toNat ({e2 with Nodes:=r6}:bJ))).bind fun st=>
  (nr tl1) (i1+1) ({n4 with Items:=st}:aj)

def nt:List hU→Nat→aj→Option aj
 |[],i,n3=>
  nr n3.Items 0 n3
 |e::tl,i,n3=>
  (cN n3.Aggs (i:Int)).bind fun e3=>
  (cn e3.Arg.Nodes).bind fun r7=>
  (some (n3.Aggs.set (i:Int).toNat ({e3 with Arg:=({e3.Arg with Nodes:=r7}:bJ)}:hU))).bind fun st1=>
  (nt tl) (i+1) ({n3 with Aggs:=st1}:aj)

def nu(n2:aj):Option aj:=
 (cz n2.Kinds).bind fun r=>
 (cz n2.Keys).bind fun r1=>
 (d4 n2.Order).bind fun r2=>
 (cn (((aj.mk n2.Op n2.A n2.B n2.Table r n2.Left n2.Cond r1 n2.Aggs n2.Items r2 n2.Limit).Cond).Nodes)).bind fun r3=>
 (fg (({(aj.mk n2.Op n2.A n2.B n2.Table r n2.Left n2.Cond r1 n2.Aggs n2.Items r2 n2.Limit)with Cond:=({(aj.mk n2.Op n2.A n2.B n2.Table r n2.Left n2.Cond r1 n2.Aggs n2.Items r2 n2.Limit).Cond with Nodes:=r3}:bJ)}:aj).Aggs)).bind fun r4=>
 (ep (({(aj.mk n2.Op n2.A n2.B n2.Table r n2.Left n2.Cond r1 n2.Aggs n2.Items r2 n2.Limit)with Cond:=({(aj.mk n2.Op n2.A n2.B n2.Table r n2.Left n2.Cond r1 n2.Aggs n2.Items r2 n2.Limit).Cond with Nodes:=r3}:bJ)}:aj).Items)).bind fun r5=>
 nt r4 0 ({({({(aj.mk n2.Op n2.A n2.B n2.Table r n2.Left n2.Cond r1 n2.Aggs n2.Items r2 n2.Limit)with Cond:=({(aj.mk n2.Op n2.A n2.B n2.Table r n2.Left n2.Cond r1 n2.Aggs n2.Items r2 n2.Limit).Cond with Nodes:=r3}:bJ)}:aj)with Aggs:=r4}:aj)with Items:=r5}:aj)

def pr(by1:Int)(n1:aj):Option aj:=
 if(decide ((0:Int)≤n1.B))then
 (nu (aj.mk n1.Op n1.A (IntKind.i64.wrap (n1.B+by1)) n1.Table n1.Kinds n1.Left n1.Cond n1.Keys n1.Aggs n1.Items n1.Order n1.Limit))
 else
 (nu n1)

def oT(n:aj)(by1:Int):Option aj:=
 if(decide ((0:Int)≤n.A))then
 (pr by1 (aj.mk n.Op (IntKind.i64.wrap (n.A+by1)) n.B n.Table n.Kinds n.Left n.Cond n.Keys n.Aggs n.Items n.Order n.Limit))
 else
 (pr by1 n)

def nN(l:bc)(place:Int)(e:Int):Nat→Int→bc→Option (bc×Int)
  |0,_,_=>none
  |n+1,i,out=>
    if(decide (i≤place))then
    ((cN l.Nodes i).bind fun e1=>
    (oT e1 (IntKind.i64.wrap (0-e))).bind fun r1=>
    (app out.Nodes ([r1])).bind fun l2=>
    (nN l place e n) (IntKind.i64.wrap (i+(1:Int))) ({out with Nodes:=l2}:bc))
    else
    (some (out,(0:Int)))

def ua(l:bc)(place:Int):Option (bc×Int):=
  (pI l).bind fun r=>
  if(!r.2.2)then
  (some ((⟨[]⟩:bc),(230:Int)))
  else
  (if((decide (place<(0:Int)))||(decide ((l.Nodes.length:Int)≤place)))then
  (some ((⟨[]⟩:bc),(2:Int)))
  else
  ((cN r.1.first place).bind fun e=>
  nN l place e iN e ({(⟨[]⟩:bc)with Nodes:=([]:List aj)}:bc)))

def oI(l:bc)(nx:Nat→cZ→Option ((List (List ac))×Int))(i:Nat)(r2:((List (List ac))×Int)×cZ)(rows:(List (List ac))):Option ((List (List ac))×Int):=
 (ua l (i:Int)).bind fun r3=>
 (sd r3.1).bind fun r4=>
 (app r2.2.rows ([rows])).bind fun l3=>
 (app r2.2.width ([(r4.1.length:Int)])).bind fun l4=>
 nx (i+1) ({({r2.2 with rows:=l3}:cZ)with width:=l4}:cZ)

def oJ(l:bc)(nx:Nat→cZ→Option ((List (List ac))×Int))(i:Nat)(e:aj)(r2:((List (List ac))×Int)×cZ)(e2:Int):Option ((List (List ac))×Int):=
  if(e2 !=(0:Int))then
  (some ([],e2))
  else
  (if(e.Op !=(8:Int))then
  ((wE r2.1.1).bind fun r5=>
  oI l nx i r2 r5.1)
  else
  (oI l nx i r2 r2.1.1))

def gh(l:bc):List aj→Nat→cZ→Option ((List (List ac))×Int)
 |[],i,ob=>
  (cN ob.rows (IntKind.i64.wrap ((ob.rows.length:Int)-(1:Int)))).bind fun e1=>
  some (e1,(0:Int))
 |e::tl,i,ob=>
  (((pH (dw (dw (dw (dw (dw (dw (dw (dw ([]:List (Int×(cZ→aj→Option (((List (List ac))×Int)×cZ)))) (1:Int) (fun(mc:cZ) (mx:aj)=>(lh mc mx).map fun mr=>(mr,mc))) (2:Int) (fun(mc:cZ) (mx:aj)=>(jT mc mx).map fun mr=>(mr,mc))) (3:Int) (fun(mc:cZ) (mx:aj)=>(jP mc mx).map fun mr=>(mr,mc))) (4:Int) (fun(mc:cZ) (mx:aj)=>(jp mc mx).map fun mr=>(mr,mc))) (5:Int) (fun(mc:cZ) (mx:aj)=>(jo mc mx).map fun mr=>(mr,mc))) (6:Int) (fun(mc:cZ) (mx:aj)=>(iU mc mx).map fun mr=>(mr,mc))) (7:Int) (fun(mc:cZ) (mx:aj)=>(kG mc mx).map fun mr=>(mr,mc))) (8:Int) (fun(mc:cZ) (mx:aj)=>(kH mc mx).map fun mr=>(mr,mc))) e.Op).getD (fun _ _=>none)) ob (e)).bind fun r2=>
  if((r2.1.2==(0:Int))&&(decide ((8000:Int)<(r2.1.1.length:Int))))then
  (oJ l (gh l tl) i e r2 (3:Int))
  else
  (oJ l (gh l tl) i e r2 r2.1.2)

def gO(l:bc)(b:dv):Option ((List (List ac))×Int):=
  (mG l).bind fun r=>
  if(r.2 !=(0:Int))then
  (some ([],r.2))
  else
  ((u0 l b).bind fun r1=>
  if(!r1)then
  (some ([],(250:Int)))
  else
  (gh l l.Nodes 0 (⟨b,[],[]⟩:cZ)))

def FE:Option aj:=
 some (⟨(1:Int),(-1:Int),(-1:Int),(0:Int),[(2:Int)],false,(⟨[]⟩:bJ),[],[],[],[],(0:Int)⟩:aj)

def HA(k:Int):Option bJ:=
 some (⟨[(⟨(2:Int),(-1:Int),(-1:Int),k,(⟨(0:Int),(0:Int),(0:Int),[]⟩:ac)⟩:bp)]⟩:bJ)

def I3(k:Int):Option (List ac):=
 some ([(⟨(2:Int),k,(0:Int),[]⟩:ac)])

def Dp:Option dv:=
 (I3 (1:Int)).bind fun r=>
 (I3 (2:Int)).bind fun r1=>
 some (⟨[[r,r1,[(⟨(0:Int),(0:Int),(0:Int),[]⟩:ac)]]]⟩:dv)

def uQ:Option Bool:=
  (FE).bind fun r=>
  (HA (0:Int)).bind fun r1=>
  (Dp).bind fun r2=>
  (gO (⟨[r,(⟨(4:Int),(0:Int),(-1:Int),(0:Int),[],false,(⟨[]⟩:bJ),[],[(⟨(1:Int),(⟨[]⟩:bJ)⟩:hU),(⟨(3:Int),r1⟩:hU)],[],[],(0:Int)⟩:aj)]⟩:bc) r2).bind fun r3=>
  (if((r3.2==(0:Int))&&((r3.1.length:Int)==(1:Int)))then((cN r3.1 (0:Int)).bind fun e=>
  some ((e.length:Int)==(2:Int)))else some false).bind fun t=>
  (if t then((cN r3.1 (0:Int)).bind fun e1=>
  (cN e1 (0:Int)).bind fun e2=>
  some (e2.N==(3:Int)))else some false).bind fun t1=>
  (if t1 then((cN r3.1 (0:Int)).bind fun e3=>
  (cN e3 (1:Int)).bind fun e4=>
  some (e4.N==(3:Int)))else some false).bind fun t2=>
  some t2

def lB(nx:Option Bool):List ac→Option Bool
 |[]=>
  nx
 |e1::tl1=>
  if(decide ((200:Int)<(e1.S.length:Int)))then
  (some true)
  else
  ((lB nx tl1))

def iK:List (List ac)→Option Bool
 |[]=>
  some false
 |e::tl=>
  if(decide ((30:Int)<(e.length:Int)))then
  (some true)
  else
  (lB (iK tl) e)

def qq(l:(List (List ac)))(most:Int):Option Bool:=
 if(decide (most<(l.length:Int)))then
 (some true)
 else
 (iK l)

def lD:List (List (List ac))→Option Bool
 |[]=>
  some false
 |e::tl=>
  (qq e (30:Int)).bind fun r=>
  if r then
  (some true)
  else
  ((lD tl))

def qr(b:dv):Option Bool:=
 if(decide ((10:Int)<(b.Tables.length:Int)))then
 (some true)
 else
 (lD b.Tables)

def lC:List bp→Option Bool
 |[]=>
  some false
 |e1::tl=>
  if(decide ((200:Int)<(e1.Value.S.length:Int)))then
  (some true)
  else
  ((lC tl))

def kU(e:bJ):Option Bool:=
 if(decide ((100:Int)<(e.Nodes.length:Int)))then
 (some true)
 else
 (lC e.Nodes)

def nO(b:dv)(nx:Int→Option Bool)(e:aj)(rows:Int):List hU→Option Bool
  |[]=>
    if(((e.Op==(1:Int))&&(decide ((0:Int)≤e.Table)))&&(decide (e.Table<(b.Tables.length:Int))))then
    ((cN b.Tables e.Table).bind fun e3=>
    nx (IntKind.i64.wrap (rows*(IntKind.i64.wrap ((e3.length:Int)+(1:Int))))))
    else
    (nx rows)
  |e2::tl2=>
    (kU e2.Arg).bind fun r1=>
    if r1 then
    (some true)
    else
    ((nO b nx e rows tl2))

def nP(b:dv)(nx:Int→Option Bool)(e:aj)(rows:Int):List bJ→Option Bool
 |[]=>
  nO b nx e rows e.Aggs
 |e1::tl1=>
  (kU e1).bind fun r2=>
  if r2 then
  (some true)
  else
  ((nP b nx e rows tl1))

def kw(b:dv):List aj→Int→Option Bool
  |[],rows=>
    some (decide ((3000:Int)<rows))
  |e::tl,rows=>
    (if(!(((((decide ((20:Int)<(e.Kinds.length:Int)))||(decide ((20:Int)<(e.Keys.length:Int))))||(decide ((20:Int)<(e.Order.length:Int))))||(decide ((20:Int)<(e.Items.length:Int))))||(decide ((20:Int)<(e.Aggs.length:Int)))))then((kU e.Cond).bind fun r=>
    some r)else some true).bind fun t=>
    if t then
    (some true)
    else
    (nP b (kw b tl) e rows e.Items)

def wM(l:bc)(b:dv):Option Bool:=
 if(decide ((30:Int)<(l.Nodes.length:Int)))then
 (some true)
 else
 (kw b l.Nodes (1:Int))

def dL(v:ac):Option Bool:=
  if(v.Kind==(0:Int))then
  (some (decide (v=(⟨(0:Int),(0:Int),(0:Int),[]⟩:ac))))
  else
  (if(v.Kind==(1:Int))then
  (some (((v.U==(0:Int))&&(v.S==([])))&&((v.N==(0:Int))||(v.N==(1:Int)))))
  else
  (if(v.Kind==(2:Int))then
  (some ((v.U==(0:Int))&&(v.S==([]))))
  else
  (if(v.Kind==(3:Int))then
  (some (((v.N==(0:Int))&&(v.U==(0:Int)))&&(decide ((v.S.length:Int)≤(40:Int)))))
  else
  (some ((v.Kind==(4:Int))&&(v.S==([])))))))

def qY(less:Bool):Option Int:=
 if less then
 (some (-1:Int))
 else
 (some (1:Int))

def pT(a1:ac)(b:ac):Option Int:=
  if(a1.Kind !=b.Kind)then
  ((qY (decide (a1.Kind<b.Kind))).bind fun r=>
  some r)
  else
  (if(a1.N !=b.N)then
  ((qY (decide (a1.N<b.N))).bind fun r1=>
  some r1)
  else
  (if(a1.U !=b.U)then
  ((qY (decide (a1.U<b.U))).bind fun r2=>
  some r2)
  else
  (if(!(a1.S==b.S))then
  ((qY (Op.bytesLess a1.S b.S)).bind fun r3=>
  some r3)
  else
  (some (0:Int)))))

def mg(x1:Bool):Option Int:=
 if x1 then
 (some (1:Int))
 else
 (some (-1:Int))

def tR(op:Int)(x:Bool):Option Int:=
  if x then
  (some (2:Int))
  else
  (if(op==(3:Int))then
  (mg (op==(3:Int)))
  else
  (if(op==(4:Int))then
  (mg (op==(4:Int)))
  else
  (if(op==(5:Int))then
  (mg (op==(5:Int)))
  else
  (if(op==(6:Int))then
  (mg (op==(6:Int)))
  else
  (mg (op==(8:Int)))))))

def yf(op:Int):Option Int:=
  if(op==(1:Int))then
  (some (0:Int))
  else
  (if(op==(2:Int))then
  (tR op (op==(2:Int)))
  else
  (tR op (op==(7:Int))))

def bX:Nat→bc→Int→Option Int
  |0,_,_=>none
  |fu+1,l,at1=>
    if((decide (at1<(0:Int)))||(decide ((l.Nodes.length:Int)≤at1)))then
    (some (0:Int))
    else
    ((cN l.Nodes at1).bind fun e=>
    (yf e.Op).bind fun r=>
    if(r==(0:Int))then
    (if((e.A==(-1:Int))&&(e.B==(-1:Int)))then
    (some (1:Int))
    else
    (some (0:Int)))
    else
    (if(r==(1:Int))then
    (if((e.A==(IntKind.i64.wrap (at1-(1:Int))))&&(e.B==(-1:Int)))then
    (((bX fu) l e.A).bind fun r1=>
    if(decide ((0:Int)<r1))then
    (some (IntKind.i64.wrap (r1+(1:Int))))
    else
    (some (0:Int)))
    else
    (some (0:Int)))
    else
    (if(r==(2:Int))then
    (if(e.B==(IntKind.i64.wrap (at1-(1:Int))))then
    (((bX fu) l e.B).bind fun r2=>
    if((decide ((0:Int)<r2))&&(e.A==(IntKind.i64.wrap (e.B-r2))))then
    (((bX fu) l e.A).bind fun r3=>
    if(decide ((0:Int)<r3))then
    (some (IntKind.i64.wrap ((IntKind.i64.wrap (r3+r2))+(1:Int))))
    else
    (some (0:Int)))
    else
    (some (0:Int)))
    else
    (some (0:Int)))
    else
    (some (0:Int)))))

def kS(l:bc)(at1:Int):Option Int:=
 bX iN l at1

def vH(n:aj):Option Bool:=
  if((n.Op !=(1:Int))&&((n.Table !=(0:Int))||(decide ((0:Int)<(n.Kinds.length:Int)))))then
  (some false)
  else
  (if(((n.Op !=(2:Int))&&n.Left)||(((n.Op !=(2:Int))&&(n.Op !=(3:Int)))&&(decide ((0:Int)<(n.Cond.Nodes.length:Int)))))then
  (some false)
  else
  (if(((n.Op !=(4:Int))&&((decide ((0:Int)<(n.Keys.length:Int)))||(decide ((0:Int)<(n.Aggs.length:Int)))))||((n.Op !=(5:Int))&&(decide ((0:Int)<(n.Items.length:Int)))))then
  (some false)
  else
  (some ((n.Op==(8:Int))||(((n.Order.length:Int)==(0:Int))&&(n.Limit==(0:Int)))))))

def Dl(tag:Int):Option Int:=
  if((decide (tag<(1:Int)))||(decide ((23:Int)<tag)))then
  (some (-1:Int))
  else
  (if(decide (tag≤(3:Int)))then
  (some (0:Int))
  else
  (if(decide (tag≤(11:Int)))then
  (some (1:Int))
  else
  (some (2:Int))))

def yh(tag:Int):Option Int:=
  if((tag==(3:Int))||((decide ((8:Int)≤tag))&&(decide (tag≤(11:Int)))))then
  (some (-1:Int))
  else
  ((Dl tag).bind fun r=>
  some r)

def mE(v:ac):Option Bool:=
 (dL v).bind fun r=>
 some (r&&(v.Kind !=(4:Int)))

def mU(n:bp):Option Bool:=
  if(n.Tag==(1:Int))then
  ((mE n.Value).bind fun r=>
  some (r&&(n.Col==(0:Int))))
  else
  (if(n.Tag==(2:Int))then
  (some (((decide (n.Value=(⟨(0:Int),(0:Int),(0:Int),[]⟩:ac)))&&(decide ((0:Int)≤n.Col)))&&(decide (n.Col<(16:Int)))))
  else
  (some ((decide (n.Value=(⟨(0:Int),(0:Int),(0:Int),[]⟩:ac)))&&(n.Col==(0:Int)))))

def jw:Nat→bJ→Int→Option Int
  |0,_,_=>none
  |fu+1,e,place=>
    if((decide (place<(0:Int)))||(decide ((e.Nodes.length:Int)≤place)))then
    (some (0:Int))
    else
    ((cN e.Nodes place).bind fun e1=>
    (yh e1.Tag).bind fun r=>
    (if(!(decide (r<(0:Int))))then((mU e1).bind fun r1=>
    some (!r1))else some true).bind fun t=>
    if t then
    (some (0:Int))
    else
    (if(r==(0:Int))then
    (if((e1.L !=(-1:Int))||(e1.R !=(-1:Int)))then
    (some (0:Int))
    else
    (some (1:Int)))
    else
    (((jw fu) e (IntKind.i64.wrap (place-(1:Int)))).bind fun r2=>
    if(r2==(0:Int))then
    (some (0:Int))
    else
    (if(r==(1:Int))then
    (if((e1.L !=(IntKind.i64.wrap (place-(1:Int))))||(e1.R !=(-1:Int)))then
    (some (0:Int))
    else
    (some (IntKind.i64.wrap (r2+(1:Int)))))
    else
    (((jw fu) e (IntKind.i64.wrap ((IntKind.i64.wrap (place-(1:Int)))-r2))).bind fun r3=>
    if(((r3==(0:Int))||(e1.R !=(IntKind.i64.wrap (place-(1:Int)))))||(e1.L !=(IntKind.i64.wrap ((IntKind.i64.wrap (place-(1:Int)))-r2))))then
    (some (0:Int))
    else
    (some (IntKind.i64.wrap ((IntKind.i64.wrap (r3+r2))+(1:Int)))))))))

def Fa(e:bJ)(place:Int):Option Int:=
 jw iN e place

def uL(e:bJ):Option Bool:=
  (if((decide ((1:Int)≤(e.Nodes.length:Int)))&&(decide ((e.Nodes.length:Int)≤(1000:Int))))then((Fa e (IntKind.i64.wrap ((e.Nodes.length:Int)-(1:Int)))).bind fun r=>
  some (r==(e.Nodes.length:Int)))else some false).bind fun t=>
  some t

def iI(k:Int)(want:Int):Option Bool:=
 some ((k==want)||(k==(0:Int)))

def jl(tag:Int)(l:Int)(r:Int):Option (Int×Bool):=
  if((tag==(4:Int))||((decide ((12:Int)≤tag))&&(decide (tag≤(15:Int)))))then
  ((iI l (2:Int)).bind fun r1=>
  (if r1 then((iI r (2:Int)).bind fun r2=>
  some r2)else some false).bind fun t=>
  some ((2:Int),t))
  else
  (if((tag==(5:Int))||(decide ((22:Int)≤tag)))then
  ((iI l (1:Int)).bind fun r3=>
  (if r3 then((iI r (1:Int)).bind fun r4=>
  some r4)else some false).bind fun t1=>
  some ((1:Int),t1))
  else
  (if((tag==(6:Int))||(tag==(7:Int)))then
  (some ((1:Int),true))
  else
  (some ((1:Int),(((l==r)||(l==(0:Int)))||(r==(0:Int)))))))

def rC(nx2:(List Int)→Option (Int×Int))(e3:bp)(own:List Int)(e6:Int)(r1:Int):Option (Int×Int):=
  (jl e3.Tag e6 r1).bind fun r2=>
  if(!r2.2)then
  (some ((0:Int),(201:Int)))
  else
  ((app own ([r2.1])).bind fun own3=>
  nx2 own3)

def du(kinds:(List Int)):List bp→(List Int)→Option (Int×Int)
  |[],own=>
    (cN own (IntKind.i64.wrap ((own.length:Int)-(1:Int)))).bind fun e4=>
    some (e4,(0:Int))
  |e3::tl2,own=>
    if(e3.Tag==(1:Int))then
    ((app own ([e3.Value.Kind])).bind fun own1=>
    (du kinds tl2) own1)
    else
    (if(e3.Tag==(2:Int))then
    ((cN kinds e3.Col).bind fun e5=>
    (app own ([e5])).bind fun own2=>
    (du kinds tl2) own2)
    else
    ((cN own e3.L).bind fun e6=>
    if(decide ((0:Int)≤e3.R))then
    ((cN own e3.R).bind fun e7=>
    rC (du kinds tl2) e3 own e6 e7)
    else
    (rC (du kinds tl2) e3 own e6 (0:Int))))

def pb(e:bJ)(kinds:(List Int)):List bp→Option (Int×Int)
 |[]=>
  du kinds e.Nodes ([]:List Int)
 |e2::tl1=>
  if((e2.Tag==(2:Int))&&(decide ((kinds.length:Int)≤e2.Col)))then
  (some ((0:Int),(2:Int)))
  else
  ((pb e kinds tl1))

def rA(e:bJ)(kinds:(List Int)):List Int→Option (Int×Int)
 |[]=>
  pb e kinds e.Nodes
 |e1::tl=>
  if((decide (e1<(0:Int)))||(decide ((3:Int)<e1)))then
  (some ((0:Int),(2:Int)))
  else
  ((rA e kinds tl))

def tS(e:bJ)(kinds:(List Int)):Option (Int×Int):=
 (uL e).bind fun r=>
 if(!r)then
 (some ((0:Int),(200:Int)))
 else
 (rA e kinds kinds)

def uK(e:bJ)(kinds:(List Int)):Option Bool:=
 (tS e kinds).bind fun r=>
 some ((r.2==(0:Int))&&((r.1==(0:Int))||(r.1==(1:Int))))

def lg(a1:hU)(kinds:(List Int)):Option (Int×Bool):=
  if(a1.Tag==(1:Int))then
  (some ((2:Int),((a1.Arg.Nodes.length:Int)==(0:Int))))
  else
  ((tS a1.Arg kinds).bind fun r=>
  if(((decide (a1.Tag<(1:Int)))||(decide ((5:Int)<a1.Tag)))||(r.2 !=(0:Int)))then
  (some ((0:Int),false))
  else
  (if(((a1.Tag==(3:Int))&&(r.1 !=(2:Int)))&&(r.1 !=(0:Int)))then
  (some ((0:Int),false))
  else
  (if(decide ((4:Int)≤a1.Tag))then
  (some (r.1,true))
  else
  (some ((2:Int),true)))))

def cO(n:aj):Nat→Bool→Int→Option ((List Int)×Bool)
  |0,_,_=>none
  |n1+1,ok,i=>
    if(decide (i<(n.Kinds.length:Int)))then
    ((if ok then((cN n.Kinds i).bind fun e=>
    some (decide ((1:Int)≤e)))else some false).bind fun t=>
    (if t then((cN n.Kinds i).bind fun e1=>
    some (decide (e1≤(3:Int))))else some false).bind fun t1=>
    (cO n n1) t1 (IntKind.i64.wrap (i+(1:Int))))
    else
    (some (n.Kinds,((((ok&&(decide ((0:Int)≤n.Table)))&&(decide (n.Table≤(3:Int))))&&(decide ((1:Int)≤(n.Kinds.length:Int))))&&(decide ((n.Kinds.length:Int)≤(4:Int))))))

def cX(n:aj)(a1:(List Int)):Nat→(List Int)→Bool→Int→Option ((List Int)×Bool)
  |0,_,_,_=>none
  |n3+1,out3,ok1,i2=>
    if(decide (i2<(n.Aggs.length:Int)))then
    ((cN n.Aggs i2).bind fun e4=>
    (lg e4 a1).bind fun r2=>
    (app out3 ([r2.1])).bind fun out4=>
    (cX n a1 n3) out4 (ok1&&r2.2) (IntKind.i64.wrap (i2+(1:Int))))
    else
    (some (out3,(((ok1&&(decide ((n.Keys.length:Int)≤(3:Int))))&&(decide ((n.Aggs.length:Int)≤(12:Int))))&&(decide ((0:Int)<(out3.length:Int))))))

def cY(n:aj)(a1:(List Int)):Nat→(List Int)→Int→Option ((List Int)×Bool)
  |0,_,_=>none
  |n2+1,out1,i1=>
    if(decide (i1<(n.Keys.length:Int)))then
    ((cN n.Keys i1).bind fun e2=>
    if((decide (e2<(0:Int)))||(decide ((a1.length:Int)≤e2)))then
    (some ([],false))
    else
    ((cN a1 e2).bind fun e3=>
    (app out1 ([e3])).bind fun out2=>
    (cY n a1 n2) out2 (IntKind.i64.wrap (i1+(1:Int)))))
    else
    (cX n a1 iN out1 true (0:Int))

def cW(n:aj)(a1:(List Int)):Nat→(List Int)→Bool→Int→Option ((List Int)×Bool)
  |0,_,_,_=>none
  |n4+1,out5,ok2,i3=>
    if(decide (i3<(n.Items.length:Int)))then
    ((cN n.Items i3).bind fun e5=>
    (tS e5 a1).bind fun r3=>
    (app out5 ([r3.1])).bind fun out6=>
    (cW n a1 n4) out6 (ok2&&(r3.2==(0:Int))) (IntKind.i64.wrap (i3+(1:Int))))
    else
    (some (out5,((ok2&&(decide ((1:Int)≤(out5.length:Int))))&&(decide ((out5.length:Int)≤(16:Int))))))

def iH(b:(List Int))(nx4:Nat→(List Int)→Bool→Option ((List Int)×Bool))(i4:Nat)(out7:List Int)(ok3:Bool)(k:Int):Option ((List Int)×Bool):=
  (app out7 ([k])).bind fun out8=>
  (if ok3 then((cN b (i4:Int)).bind fun e7=>
  (if(!(e7==k))then((cN b (i4:Int)).bind fun e8=>
  some (e8==(0:Int)))else some true).bind fun t3=>
  some t3)else some false).bind fun t2=>
  nx4 (i4+1) out8 t2

def dB(b:(List Int)):List Int→Nat→(List Int)→Bool→Option ((List Int)×Bool)
  |[],i4,out7,ok3=>
    some (out7,ok3)
  |e6::tl,i4,out7,ok3=>
    if(e6==(0:Int))then
    ((cN b (i4:Int)).bind fun e9=>
    iH b (dB b tl) i4 out7 ok3 e9)
    else
    (iH b (dB b tl) i4 out7 ok3 e6)

def cB(n:aj)(a1:(List Int)):Nat→Bool→Int→Option ((List Int)×Bool)
  |0,_,_=>none
  |n5+1,ok4,i5=>
    if(decide (i5<(n.Order.length:Int)))then
    ((if ok4 then((cN n.Order i5).bind fun e10=>
    some (decide ((0:Int)≤e10.Col)))else some false).bind fun t4=>
    (if t4 then((cN n.Order i5).bind fun e11=>
    some (decide (e11.Col<(a1.length:Int))))else some false).bind fun t5=>
    (cB n a1 n5) t5 (IntKind.i64.wrap (i5+(1:Int))))
    else
    (some (a1,(((ok4&&(decide ((n.Order.length:Int)≤(3:Int))))&&(decide ((-1:Int)≤n.Limit)))&&(decide (n.Limit≤(2147483647:Int))))))

def bo(n:aj)(a1:(List Int))(b:(List Int)):Option ((List Int)×Bool):=
  if(n.Op==(1:Int))then
  (cO n iN true (0:Int))
  else
  (if(n.Op==(2:Int))then
  ((app ([]:List Int) a1).bind fun l=>
  (app l b).bind fun out=>
  (uK n.Cond out).bind fun r=>
  some (out,r))
  else
  (if(n.Op==(3:Int))then
  ((uK n.Cond a1).bind fun r1=>
  some (a1,r1))
  else
  (if(n.Op==(4:Int))then
  (cY n a1 iN ([]:List Int) (0:Int))
  else
  (if(n.Op==(5:Int))then
  (cW n a1 iN ([]:List Int) true (0:Int))
  else
  (if(n.Op==(6:Int))then
  (some (a1,true))
  else
  (if(n.Op==(7:Int))then
  (if((a1.length:Int) !=(b.length:Int))then
  (some ([],false))
  else
  (dB b a1 0 ([]:List Int) true))
  else
  (cB n a1 iN true (0:Int))))))))

def gV(l:bc)(at1:Int)(e1:aj)(a1:(List Int))(b1:(List Int)):Option ((List Int)×Bool):=
 (bo e1 a1 b1).bind fun r2=>
 if(((e1.Op==(8:Int))&&(at1 !=(IntKind.i64.wrap ((l.Nodes.length:Int)-(1:Int)))))||(decide ((16:Int)<(r2.1.length:Int))))then
 (some ([],false))
 else
 (some (r2.1,r2.2))

def ez(self__:bc→Int→Option ((List Int)×Bool))(l:bc)(at1:Int)(e1:aj)(a1:(List Int)):Option ((List Int)×Bool):=
  if(decide ((0:Int)≤e1.B))then
  ((self__ l e1.B).bind fun r3=>
  if(!r3.2)then
  (some ([],false))
  else
  (gV l at1 e1 a1 r3.1))
  else
  (gV l at1 e1 a1 ([]))

def cj:Nat→bc→Int→Option ((List Int)×Bool)
  |0,_,_=>none
  |fu+1,l,at1=>
    (kS l at1).bind fun r=>
    (if(!(r==(0:Int)))then((cN l.Nodes at1).bind fun e=>
    (vH e).bind fun r1=>
    some (!r1))else some true).bind fun t=>
    if t then
    (some ([],false))
    else
    ((cN l.Nodes at1).bind fun e1=>
    if(decide ((0:Int)≤e1.A))then
    (((cj fu) l e1.A).bind fun r4=>
    if(!r4.2)then
    (some ([],false))
    else
    (ez (cj fu) l at1 e1 r4.1))
    else
    (ez (cj fu) l at1 e1 ([])))

def rX(l:bc)(at1:Int):Option ((List Int)×Bool):=
 cj iN l at1

def fh(l:bc):List aj→Nat→Option Int
 |[],i=>
  (kS l (IntKind.i64.wrap ((l.Nodes.length:Int)-(1:Int)))).bind fun r=>
  if(r !=(l.Nodes.length:Int))then
  (some (IntKind.i64.wrap ((l.Nodes.length:Int)-(1:Int))))
  else
  (some (-1:Int))
 |e::tl,i=>
  (rX l (i:Int)).bind fun r1=>
  if(!r1.2)then
  (some (i:Int))
  else
  ((fh l tl) (i+1))

def rW(l:bc):Option Int:=
 if((decide ((l.Nodes.length:Int)<(1:Int)))||(decide ((60:Int)<(l.Nodes.length:Int))))then
 (some (0:Int))
 else
 (fh l l.Nodes 0)

def Dk(l:bc):Option Bool:=
 (rW l).bind fun r=>
 some (decide (r<(0:Int)))

def kD(n:Int):Option ac:=
 some (⟨(2:Int),n,(0:Int),[]⟩:ac)

def pG(v:ac):Option Bool:=
 (dL v).bind fun r=>
 some (r&&((v.Kind==(0:Int))||(v.Kind==(2:Int))))

def ow(high:Int)(low:Int)(b2:eP):Option eP:=
 some ({({({({b2 with D:=(b2.D.set (0:Int).toNat ((low).tmod (4294967296:Int)))}:eP)with D:=((({b2 with D:=(b2.D.set (0:Int).toNat ((low).tmod (4294967296:Int)))}:eP).D).set (1:Int).toNat ((low).fdiv (2^(min (Int.toNat (32:Int)) IntKind.u64.bits))))}:eP)with D:=((({({b2 with D:=(b2.D.set (0:Int).toNat ((low).tmod (4294967296:Int)))}:eP)with D:=((({b2 with D:=(b2.D.set (0:Int).toNat ((low).tmod (4294967296:Int)))}:eP).D).set (1:Int).toNat ((low).fdiv (2^(min (Int.toNat (32:Int)) IntKind.u64.bits))))}:eP).D).set (2:Int).toNat ((high).tmod (4294967296:Int)))}:eP)with D:=((({({({b2 with D:=(b2.D.set (0:Int).toNat ((low).tmod (4294967296:Int)))}:eP)with D:=((({b2 with D:=(b2.D.set (0:Int).toNat ((low).tmod (4294967296:Int)))}:eP).D).set (1:Int).toNat ((low).fdiv (2^(min (Int.toNat (32:Int)) IntKind.u64.bits))))}:eP)with D:=((({({b2 with D:=(b2.D.set (0:Int).toNat ((low).tmod (4294967296:Int)))}:eP)with D:=((({b2 with D:=(b2.D.set (0:Int).toNat ((low).tmod (4294967296:Int)))}:eP).D).set (1:Int).toNat ((low).fdiv (2^(min (Int.toNat (32:Int)) IntKind.u64.bits))))}:eP).D).set (2:Int).toNat ((high).tmod (4294967296:Int)))}:eP).D).set (3:Int).toNat ((high).fdiv (2^(min (Int.toNat (32:Int)) IntKind.u64.bits))))}:eP)

def rZ(n:Int)(u:Int):Option eP:=
  if(decide (n<(0:Int)))then
  (if((IntKind.u64.wrap ((fk .xor .u64 (if IntKind.u64.signed then -1 else IntKind.u64.max) u)+(1:Int)))==(0:Int))then
  (ow (IntKind.u64.wrap ((fk .xor .u64 (if IntKind.u64.signed then -1 else IntKind.u64.max) (IntKind.u64.wrap n))+(1:Int))) (IntKind.u64.wrap ((fk .xor .u64 (if IntKind.u64.signed then -1 else IntKind.u64.max) u)+(1:Int))) (eP.mk (⟨(List.replicate 8 (0:Int)),false⟩:eP).D true))
  else
  (ow (fk .xor .u64 (if IntKind.u64.signed then -1 else IntKind.u64.max) (IntKind.u64.wrap n)) (IntKind.u64.wrap ((fk .xor .u64 (if IntKind.u64.signed then -1 else IntKind.u64.max) u)+(1:Int))) (eP.mk (⟨(List.replicate 8 (0:Int)),false⟩:eP).D true)))
  else
  (ow (IntKind.u64.wrap n) u (⟨(List.replicate 8 (0:Int)),false⟩:eP))

def fV(n:Int):Option eP:=
  if(decide (n<(0:Int)))then
  ((rZ (-1:Int) (IntKind.u64.wrap n)).bind fun r=>
  some r)
  else
  ((rZ (0:Int) (IntKind.u64.wrap n)).bind fun r1=>
  some r1)

def lK(a1:eP)(b:eP):Nat→Int→Option Bool
  |0,_=>none
  |n+1,i=>
    if(decide ((0:Int)≤i))then
    ((cN a1.D i).bind fun e=>
    (cN b.D i).bind fun e1=>
    if(e !=e1)then
    (some (decide (e<e1)))
    else
    ((lK a1 b n) (IntKind.i64.wrap (i-(1:Int)))))
    else
    (some false)

def tW(a1:eP)(b:eP):Option Bool:=
 lK a1 b iN (7:Int)

def tU(a1:eP):Option Bool:=
 some (decide (a1.D=(List.replicate 8 (0:Int))))

def gW(a2:eP)(b4:eP):Nat→Nat→Int→eP→Option eP
  |0,i,carry,out=>
    (if out.Below then((tU out).bind fun r=>
    some (!r))else some false).bind fun t=>
    some (eP.mk out.D t)
  |k1+1,i,carry,out=>
    if(a2.Below==b4.Below)then
    ((Sq (i:Int) 8).bind fun u=>
    (cN a2.D (i:Int)).bind fun e1=>
    (Sq (i:Int) 8).bind fun u1=>
    (cN b4.D (i:Int)).bind fun e2=>
    (Sq (i:Int) 8).bind fun u2=>
    (gW a2 b4 k1) (i+1) (((IntKind.u64.wrap ((IntKind.u64.wrap (e1+e2))+carry))).fdiv (2^(min (Int.toNat (32:Int)) IntKind.u64.bits))) ({out with D:=(out.D.set (i:Int).toNat (((IntKind.u64.wrap ((IntKind.u64.wrap (e1+e2))+carry))).tmod (4294967296:Int)))}:eP))
    else
    ((Sq (i:Int) 8).bind fun u3=>
    (cN a2.D (i:Int)).bind fun e3=>
    (Sq (i:Int) 8).bind fun u4=>
    (cN b4.D (i:Int)).bind fun e4=>
    (Sq (i:Int) 8).bind fun u5=>
    (gW a2 b4 k1) (i+1) (IntKind.u64.wrap ((1:Int)-(((IntKind.u64.wrap ((IntKind.u64.wrap ((IntKind.u64.wrap (e3+(4294967296:Int)))-e4))-carry))).fdiv (2^(min (Int.toNat (32:Int)) IntKind.u64.bits))))) ({out with D:=(out.D.set (i:Int).toNat (((IntKind.u64.wrap ((IntKind.u64.wrap ((IntKind.u64.wrap (e3+(4294967296:Int)))-e4))-carry))).tmod (4294967296:Int)))}:eP))

def iz(a2:eP)(b4:eP):Option eP:=
 gW a2 b4 8 0 (0:Int) (⟨(List.replicate 8 (0:Int)),a2.Below⟩:eP)

def mV(a1:eP)(b:eP):Option eP:=
  (if(a1.Below !=b.Below)then((tW a1 b).bind fun r1=>
  some r1)else some false).bind fun t1=>
  if t1 then
  (iz b a1)
  else
  (iz a1 b)

def lL(a1:eP)(high:Int)(low:Int):Option (Int×Int×Bool):=
 some ((IntKind.i64.wrap high),low,((decide ((IntKind.i64.wrap high)<(0:Int)))==a1.Below))

def fy(a1:eP)(e:Int)(e1:Int)(e2:Int)(e3:Int):Nat→Nat→Option (Int×Int×Bool)
  |0,i=>
    if a1.Below then
    (if((IntKind.u64.wrap ((fk .xor .u64 (if IntKind.u64.signed then -1 else IntKind.u64.max) (IntKind.u64.wrap ((IntKind.u64.wrap (e2*2^(min (Int.toNat (32:Int)) IntKind.u64.bits)))+e3)))+(1:Int)))==(0:Int))then
    (lL a1 (IntKind.u64.wrap ((fk .xor .u64 (if IntKind.u64.signed then -1 else IntKind.u64.max) (IntKind.u64.wrap ((IntKind.u64.wrap (e*2^(min (Int.toNat (32:Int)) IntKind.u64.bits)))+e1)))+(1:Int))) (IntKind.u64.wrap ((fk .xor .u64 (if IntKind.u64.signed then -1 else IntKind.u64.max) (IntKind.u64.wrap ((IntKind.u64.wrap (e2*2^(min (Int.toNat (32:Int)) IntKind.u64.bits)))+e3)))+(1:Int))))
    else
    (lL a1 (fk .xor .u64 (if IntKind.u64.signed then -1 else IntKind.u64.max) (IntKind.u64.wrap ((IntKind.u64.wrap (e*2^(min (Int.toNat (32:Int)) IntKind.u64.bits)))+e1))) (IntKind.u64.wrap ((fk .xor .u64 (if IntKind.u64.signed then -1 else IntKind.u64.max) (IntKind.u64.wrap ((IntKind.u64.wrap (e2*2^(min (Int.toNat (32:Int)) IntKind.u64.bits)))+e3)))+(1:Int)))))
    else
    (lL a1 (IntKind.u64.wrap ((IntKind.u64.wrap (e*2^(min (Int.toNat (32:Int)) IntKind.u64.bits)))+e1)) (IntKind.u64.wrap ((IntKind.u64.wrap (e2*2^(min (Int.toNat (32:Int)) IntKind.u64.bits)))+e3)))
  |k1+1,i=>
    (cN a1.D (i:Int)).bind fun e5=>
    if(e5 !=(0:Int))then
    (some ((0:Int),(0:Int),false))
    else
    ((fy a1 e e1 e2 e3 k1) (i+1))

def wF(a1:eP):Option (Int×Int×Bool):=
 (cN a1.D (3:Int)).bind fun e=>
 (cN a1.D (2:Int)).bind fun e1=>
 (cN a1.D (1:Int)).bind fun e2=>
 (cN a1.D (0:Int)).bind fun e3=>
 fy a1 e e1 e2 e3 (8-4) 4

def iZ(a1:eP):Option (Int×Bool):=
 (wF a1).bind fun r=>
 some ((IntKind.i64.wrap r.2.1),(r.2.2&&(((r.1==(0:Int))&&(decide ((0:Int)≤(IntKind.i64.wrap r.2.1))))||((r.1==(-1:Int))&&(decide ((IntKind.i64.wrap r.2.1)<(0:Int)))))))

def sW(a1:eP):Option eP:=
  (if(!a1.Below)then((tU a1).bind fun r=>
  some (!r))else some false).bind fun t=>
  some (eP.mk a1.D t)

def jA(a1:eP)(b:eP)(nx:Nat→eP→Option eP)(i:Nat):Nat→Nat→Int→eP→Option eP
 |0,i1,carry,out1=>
  (Sq (IntKind.i64.wrap ((i:Int)+(4:Int))) 8).bind fun u=>
  nx (i+1) ({out1 with D:=(out1.D.set (IntKind.i64.wrap ((i:Int)+(4:Int))).toNat carry)}:eP)
 |k3+1,i1,carry,out1=>
  (Sq (IntKind.i64.wrap ((i:Int)+(i1:Int))) 8).bind fun u1=>
  (cN out1.D (IntKind.i64.wrap ((i:Int)+(i1:Int)))).bind fun e2=>
  (cN a1.D (i:Int)).bind fun e3=>
  (cN b.D (i1:Int)).bind fun e4=>
  (Sq (IntKind.i64.wrap ((i:Int)+(i1:Int))) 8).bind fun u2=>
  (jA a1 b nx i k3) (i1+1) (((IntKind.u64.wrap ((IntKind.u64.wrap (e2+(IntKind.u64.wrap (e3*e4))))+carry))).fdiv (2^(min (Int.toNat (32:Int)) IntKind.u64.bits))) ({out1 with D:=(out1.D.set (IntKind.i64.wrap ((i:Int)+(i1:Int))).toNat (((IntKind.u64.wrap ((IntKind.u64.wrap (e2+(IntKind.u64.wrap (e3*e4))))+carry))).tmod (4294967296:Int)))}:eP)

def fi(a1:eP)(b:eP):Nat→Nat→eP→Option eP
  |0,i,out=>
    (if(a1.Below !=b.Below)then((tU out).bind fun r=>
    some (!r))else some false).bind fun t=>
    some (eP.mk out.D t)
  |k1+1,i,out=>
    jA a1 b (fi a1 b k1) i 4 0 (0:Int) out

def uM(a1:eP)(b:eP):Option eP:=
 fi a1 b 4 0 (⟨(List.replicate 8 (0:Int)),false⟩:eP)

def ov(a1:eP)(b:eP):Option eP:=
 (cN a1.D (1:Int)).bind fun e=>
 (cN a1.D (0:Int)).bind fun e1=>
 (cN b.D (1:Int)).bind fun e2=>
 (cN b.D (0:Int)).bind fun e3=>
 (nz (IntKind.u64.wrap ((IntKind.u64.wrap (e2*2^(min (Int.toNat (32:Int)) IntKind.u64.bits)))+e3))).bind fun _=>
 some (⟨(((List.replicate 8 (0:Int)).set 0 (((IntKind.u64.wrap (((IntKind.u64.wrap ((IntKind.u64.wrap (e*2^(min (Int.toNat (32:Int)) IntKind.u64.bits)))+e1))).tdiv (IntKind.u64.wrap ((IntKind.u64.wrap (e2*2^(min (Int.toNat (32:Int)) IntKind.u64.bits)))+e3))))).tmod (4294967296:Int))).set 1 (((IntKind.u64.wrap (((IntKind.u64.wrap ((IntKind.u64.wrap (e*2^(min (Int.toNat (32:Int)) IntKind.u64.bits)))+e1))).tdiv (IntKind.u64.wrap ((IntKind.u64.wrap (e2*2^(min (Int.toNat (32:Int)) IntKind.u64.bits)))+e3))))).fdiv (2^(min (Int.toNat (32:Int)) IntKind.u64.bits)))),((a1.Below !=b.Below)&&((IntKind.u64.wrap (((IntKind.u64.wrap ((IntKind.u64.wrap (e*2^(min (Int.toNat (32:Int)) IntKind.u64.bits)))+e1))).tdiv (IntKind.u64.wrap ((IntKind.u64.wrap (e2*2^(min (Int.toNat (32:Int)) IntKind.u64.bits)))+e3)))) !=(0:Int)))⟩:eP)

def jb(op:Int)(a1:ac)(b:ac):Option (ac×Int):=
  (dL a1).bind fun r=>
  (if(!(!r))then((dL b).bind fun r1=>
  some (!r1))else some true).bind fun t=>
  if t then
  (some ((⟨(0:Int),(0:Int),(0:Int),[]⟩:ac),(120:Int)))
  else
  ((pG a1).bind fun r2=>
  (if(!(!r2))then((pG b).bind fun r3=>
  some (!r3))else some true).bind fun t1=>
  if t1 then
  (some ((⟨(0:Int),(0:Int),(0:Int),[]⟩:ac),(2:Int)))
  else
  (if((a1.Kind==(0:Int))||(b.Kind==(0:Int)))then
  (some ((⟨(0:Int),(0:Int),(0:Int),[]⟩:ac),(0:Int)))
  else
  (if(op==(43:Int))then
  ((fV a1.N).bind fun r4=>
  (fV b.N).bind fun r5=>
  (mV r4 r5).bind fun r6=>
  (iZ r6).bind fun r7=>
  if(!r7.2)then
  (some ((⟨(0:Int),(0:Int),(0:Int),[]⟩:ac),(140:Int)))
  else
  ((kD r7.1).bind fun r8=>
  some (r8,(0:Int))))
  else
  (if(op==(45:Int))then
  ((fV a1.N).bind fun r9=>
  (fV b.N).bind fun r10=>
  (sW r10).bind fun r11=>
  (mV r9 r11).bind fun r12=>
  (iZ r12).bind fun r13=>
  if(!r13.2)then
  (some ((⟨(0:Int),(0:Int),(0:Int),[]⟩:ac),(140:Int)))
  else
  ((kD r13.1).bind fun r14=>
  some (r14,(0:Int))))
  else
  (if(op==(42:Int))then
  ((fV a1.N).bind fun r15=>
  (fV b.N).bind fun r16=>
  (uM r15 r16).bind fun r17=>
  (iZ r17).bind fun r18=>
  if(!r18.2)then
  (some ((⟨(0:Int),(0:Int),(0:Int),[]⟩:ac),(140:Int)))
  else
  ((kD r18.1).bind fun r19=>
  some (r19,(0:Int))))
  else
  (if(b.N==(0:Int))then
  (some ((⟨(0:Int),(0:Int),(0:Int),[]⟩:ac),(140:Int)))
  else
  ((fV a1.N).bind fun r20=>
  (fV b.N).bind fun r21=>
  (ov r20 r21).bind fun r22=>
  (iZ r22).bind fun r23=>
  if(!r23.2)then
  (some ((⟨(0:Int),(0:Int),(0:Int),[]⟩:ac),(140:Int)))
  else
  ((kD r23.1).bind fun r24=>
  some (r24,(0:Int))))))))))

def kT(b:Bool):Option ac:=
 if b then
 (some (⟨(1:Int),(1:Int),(0:Int),[]⟩:ac))
 else
 (some (⟨(1:Int),(0:Int),(0:Int),[]⟩:ac))

def qj(a1:ac)(b:ac):Option Int:=
  (dL a1).bind fun r=>
  (if(!(!r))then((dL b).bind fun r1=>
  some (!r1))else some true).bind fun t=>
  if t then
  (some (120:Int))
  else
  (if((decide ((1:Int)<a1.Kind))||(decide ((1:Int)<b.Kind)))then
  (some (2:Int))
  else
  (some (0:Int)))

def jm(a1:ac):Option (ac×Int):=
  (qj a1 a1).bind fun r=>
  if((r !=(0:Int))||(a1.Kind==(0:Int)))then
  (some ((⟨(0:Int),(0:Int),(0:Int),[]⟩:ac),r))
  else
  ((kT (a1.N==(0:Int))).bind fun r1=>
  some (r1,(0:Int)))

def te(a1:ac)(b:ac):Option (ac×Int):=
  (qj a1 b).bind fun r=>
  (kT false).bind fun r1=>
  if(r !=(0:Int))then
  (some ((⟨(0:Int),(0:Int),(0:Int),[]⟩:ac),r))
  else
  (if((decide (a1=r1))||(decide (b=r1)))then
  (some (r1,(0:Int)))
  else
  (if((a1.Kind==(0:Int))||(b.Kind==(0:Int)))then
  (some ((⟨(0:Int),(0:Int),(0:Int),[]⟩:ac),(0:Int)))
  else
  ((kT true).bind fun r2=>
  some (r2,(0:Int)))))

def yi(a1:ac)(b:ac):Option (ac×Int):=
  (qj a1 b).bind fun r=>
  if(r !=(0:Int))then
  (some ((⟨(0:Int),(0:Int),(0:Int),[]⟩:ac),r))
  else
  ((jm a1).bind fun r1=>
  (jm b).bind fun r2=>
  (te r1.1 r2.1).bind fun r3=>
  (jm r3.1).bind fun r4=>
  some (r4.1,r4.2))

def tX(a1:ac)(b:ac):Option Int:=
  (dL a1).bind fun r=>
  (if(!(!r))then((dL b).bind fun r1=>
  some (!r1))else some true).bind fun t=>
  if t then
  (some (120:Int))
  else
  ((mE a1).bind fun r2=>
  (if(!(!r2))then((mE b).bind fun r3=>
  some (!r3))else some true).bind fun t1=>
  if(t1||(((a1.Kind !=(0:Int))&&(b.Kind !=(0:Int)))&&(a1.Kind !=b.Kind)))then
  (some (2:Int))
  else
  (some (0:Int)))

def mi(a1:ac)(b:ac):Nat→Int→Option Int
  |0,_=>none
  |n+1,i=>
    if((decide (i<(a1.S.length:Int)))&&(decide (i<(b.S.length:Int))))then
    ((QJ a1.S i).bind fun b1=>
    (QJ b.S i).bind fun b2=>
    if(b1 !=b2)then
    ((QJ a1.S i).bind fun b3=>
    (QJ b.S i).bind fun b4=>
    if(decide (b3<b4))then
    (some (-1:Int))
    else
    (some (1:Int)))
    else
    ((mi a1 b n) (IntKind.i64.wrap (i+(1:Int)))))
    else
    (if((a1.S.length:Int) !=(b.S.length:Int))then
    (if(decide ((a1.S.length:Int)<(b.S.length:Int)))then
    (some (-1:Int))
    else
    (some (1:Int)))
    else
    (some (0:Int)))

def pc(a1:ac)(b:ac):Option Int:=
  (mE a1).bind fun r=>
  (if(!(!r))then((mE b).bind fun r1=>
  some (!r1))else some true).bind fun t=>
  if t then
  (some (0:Int))
  else
  (if(a1.Kind !=b.Kind)then
  (if(decide (a1.Kind<b.Kind))then
  (some (-1:Int))
  else
  (some (1:Int)))
  else
  (if(a1.N !=b.N)then
  (if(decide (a1.N<b.N))then
  (some (-1:Int))
  else
  (some (1:Int)))
  else
  (mi a1 b iN (0:Int))))

def r0(a1:ac)(b:ac):Option (ac×Int):=
  (tX a1 b).bind fun r=>
  if(((r !=(0:Int))||(a1.Kind==(0:Int)))||(b.Kind==(0:Int)))then
  (some ((⟨(0:Int),(0:Int),(0:Int),[]⟩:ac),r))
  else
  ((pc a1 b).bind fun r1=>
  (kT (r1==(0:Int))).bind fun r2=>
  some (r2,(0:Int)))

def mW(a1:ac)(b:ac):Option (ac×Int):=
  (tX a1 b).bind fun r=>
  if(((r !=(0:Int))||(a1.Kind==(0:Int)))||(b.Kind==(0:Int)))then
  (some ((⟨(0:Int),(0:Int),(0:Int),[]⟩:ac),r))
  else
  ((pc a1 b).bind fun r1=>
  (kT (decide (r1<(0:Int)))).bind fun r2=>
  some (r2,(0:Int)))

def Fc(tag:Int)(a1:ac)(b:ac):Option (ac×Int):=
  if(tag==(16:Int))then
  ((r0 a1 b).bind fun r=>
  some (r.1,r.2))
  else
  (if(tag==(18:Int))then
  ((mW a1 b).bind fun r1=>
  some (r1.1,r1.2))
  else
  (if(tag==(20:Int))then
  ((mW b a1).bind fun r2=>
  some (r2.1,r2.2))
  else
  (if(tag==(17:Int))then
  ((r0 a1 b).bind fun r3=>
  (jm r3.1).bind fun r4=>
  some (r4.1,r3.2))
  else
  (if(tag==(19:Int))then
  ((mW b a1).bind fun r5=>
  (jm r5.1).bind fun r6=>
  some (r6.1,r5.2))
  else
  ((mW a1 b).bind fun r7=>
  (jm r7.1).bind fun r8=>
  some (r8.1,r7.2))))))

def Fb(tag:Int)(a1:ac)(b:ac):Option (ac×Int):=
  if(tag==(4:Int))then
  ((kD (0:Int)).bind fun r=>
  (jb (45:Int) r a1).bind fun r1=>
  some (r1.1,r1.2))
  else
  (if(tag==(12:Int))then
  ((jb (43:Int) a1 b).bind fun r2=>
  some (r2.1,r2.2))
  else
  (if(tag==(13:Int))then
  ((jb (45:Int) a1 b).bind fun r3=>
  some (r3.1,r3.2))
  else
  (if(tag==(14:Int))then
  ((jb (42:Int) a1 b).bind fun r4=>
  some (r4.1,r4.2))
  else
  (if(tag==(15:Int))then
  ((jb (47:Int) a1 b).bind fun r5=>
  some (r5.1,r5.2))
  else
  (if(tag==(5:Int))then
  ((jm a1).bind fun r6=>
  some (r6.1,r6.2))
  else
  (if(tag==(22:Int))then
  ((te a1 b).bind fun r7=>
  some (r7.1,r7.2))
  else
  (if(tag==(23:Int))then
  ((yi a1 b).bind fun r8=>
  some (r8.1,r8.2))
  else
  (if(tag==(6:Int))then
  ((kT (a1.Kind==(0:Int))).bind fun r9=>
  some (r9,(0:Int)))
  else
  (if(tag==(7:Int))then
  ((kT (a1.Kind !=(0:Int))).bind fun r10=>
  some (r10,(0:Int)))
  else
  ((Fc tag a1 b).bind fun r11=>
  some (r11.1,r11.2)))))))))))

def rE(nx1:(List ac)→ac→Option (ac×Int))(e2:bp)(own:List ac)(x1:ac)(e5:ac)(b4:ac):Option (ac×Int):=
  (Fb e2.Tag e5 b4).bind fun r2=>
  if(r2.2==(140:Int))then
  (some ((⟨(0:Int),(0:Int),(0:Int),[]⟩:ac),r2.2))
  else
  (if(r2.2 !=(0:Int))then
  (some ((⟨(0:Int),(0:Int),(0:Int),[]⟩:ac),(201:Int)))
  else
  ((app own ([r2.1])).bind fun own3=>
  nx1 own3 x1))

def df(r:(List ac)):List bp→(List ac)→ac→Option (ac×Int)
  |[],own,x1=>
    (cN own (IntKind.i64.wrap ((own.length:Int)-(1:Int)))).bind fun e3=>
    some (e3,(0:Int))
  |e2::tl1,own,x1=>
    if(e2.Tag==(1:Int))then
    ((app own ([e2.Value])).bind fun own1=>
    (df r tl1) own1 x1)
    else
    (if(e2.Tag==(2:Int))then
    ((cN r e2.Col).bind fun e4=>
    (app own ([e4])).bind fun own2=>
    (df r tl1) own2 x1)
    else
    ((cN own e2.L).bind fun e5=>
    if(decide ((0:Int)≤e2.R))then
    ((cN own e2.R).bind fun e6=>
    rE (df r tl1) e2 own x1 e5 e6)
    else
    (rE (df r tl1) e2 own x1 e5 (⟨(0:Int),(0:Int),(0:Int),[]⟩:ac))))

def rD(e:bJ)(r:(List ac)):List bp→ac→Option (ac×Int)
  |[],x=>
    df r e.Nodes ([]:List ac) x
  |e1::tl,x=>
    (if(e1.Tag==(2:Int))then((if(!(decide ((r.length:Int)≤e1.Col)))then((cN r e1.Col).bind fun e7=>
    (mE e7).bind fun r3=>
    some (!r3))else some true).bind fun t1=>
    some t1)else some false).bind fun t=>
    if t then
    (some ((⟨(0:Int),(0:Int),(0:Int),[]⟩:ac),(2:Int)))
    else
    ((rD e r tl) x)

def AA(e:bJ)(r:(List ac)):Option (ac×Int):=
 (uL e).bind fun r1=>
 if(!r1)then
 (some ((⟨(0:Int),(0:Int),(0:Int),[]⟩:ac),(200:Int)))
 else
 (rD e r e.Nodes (⟨(0:Int),(0:Int),(0:Int),[]⟩:ac))

def rY(v:ac):Option Bool:=
 (dL v).bind fun r=>
 some (r&&((v.Kind==(0:Int))||(v.Kind==(4:Int))))

def y7(a1:eP):Option (ac×Int):=
 (wF a1).bind fun r=>
 if(!r.2.2)then
 (some ((⟨(0:Int),(0:Int),(0:Int),[]⟩:ac),(140:Int)))
 else
 (some ((⟨(4:Int),r.1,r.2.1,[]⟩:ac),(0:Int)))

def td(s:ac)(v:ac):Option (ac×Int):=
  (dL s).bind fun r=>
  (if(!(!r))then((dL v).bind fun r1=>
  some (!r1))else some true).bind fun t=>
  if t then
  (some ((⟨(0:Int),(0:Int),(0:Int),[]⟩:ac),(120:Int)))
  else
  ((rY s).bind fun r2=>
  (if(!(!r2))then((pG v).bind fun r3=>
  some (!r3))else some true).bind fun t1=>
  if t1 then
  (some ((⟨(0:Int),(0:Int),(0:Int),[]⟩:ac),(2:Int)))
  else
  (if(v.Kind==(0:Int))then
  (some (s,(0:Int)))
  else
  (if(s.Kind==(0:Int))then
  ((fV v.N).bind fun r4=>
  (y7 r4).bind fun r5=>
  some (r5.1,r5.2))
  else
  ((rZ s.N s.U).bind fun r6=>
  (fV v.N).bind fun r7=>
  (mV r6 r7).bind fun r8=>
  (y7 r8).bind fun r9=>
  some (r9.1,r9.2)))))

def vI(s:ac):Option (ac×Int):=
  (dL s).bind fun r=>
  if(!r)then
  (some ((⟨(0:Int),(0:Int),(0:Int),[]⟩:ac),(120:Int)))
  else
  ((rY s).bind fun r1=>
  if(!r1)then
  (some ((⟨(0:Int),(0:Int),(0:Int),[]⟩:ac),(2:Int)))
  else
  (if(s.Kind==(0:Int))then
  (some (s,(0:Int)))
  else
  ((rZ s.N s.U).bind fun r2=>
  (iZ r2).bind fun r3=>
  if(!r3.2)then
  (some ((⟨(0:Int),(0:Int),(0:Int),[]⟩:ac),(140:Int)))
  else
  ((kD r3.1).bind fun r4=>
  some (r4,(0:Int))))))

def gY(nx:Int→Int→ac→ac→ac→Option (ac×Int))(n1:Int)(fault1:Int)(x1:ac)(sum1:ac)(best1:ac):Option (ac×Int):=
 nx n1 fault1 x1 sum1 best1

def mT(a1:hU)(nx:Int→Int→ac→ac→ac→Option (ac×Int))(n:Int)(fault:Int)(x:ac)(best:ac)(r3:ac×Int)(sum2:ac):Option (ac×Int):=
  (if(!((IntKind.i64.wrap (n+(1:Int)))==(1:Int)))then((if(a1.Tag==(4:Int))then((pT r3.1 best).bind fun r4=>
  some (decide (r4<(0:Int))))else some false).bind fun t1=>
  some t1)else some true).bind fun t=>
  (if(!t)then((if(a1.Tag==(5:Int))then((pT r3.1 best).bind fun r5=>
  some (decide ((0:Int)<r5)))else some false).bind fun t3=>
  some t3)else some true).bind fun t2=>
  if t2 then
  (gY nx (IntKind.i64.wrap (n+(1:Int))) fault x sum2 r3.1)
  else
  (gY nx (IntKind.i64.wrap (n+(1:Int))) fault x sum2 best)

def f9(a1:hU):List (List ac)→Int→Int→ac→ac→ac→Option (ac×Int)
  |[],n,fault,x,sum,best=>
    if(fault !=(0:Int))then
    (some ((⟨(0:Int),(0:Int),(0:Int),[]⟩:ac),fault))
    else
    (if(a1.Tag==(2:Int))then
    ((kD n).bind fun r1=>
    some (r1,(0:Int)))
    else
    (if(a1.Tag==(3:Int))then
    ((vI sum).bind fun r2=>
    some (r2.1,r2.2))
    else
    (some (best,(0:Int)))))
  |e::tl,n,fault,x,sum,best=>
    (AA a1.Arg e).bind fun r3=>
    if(r3.2==(140:Int))then
    (gY (f9 a1 tl) n r3.2 x sum best)
    else
    (if((r3.2 !=(0:Int))||(((a1.Tag==(3:Int))&&(r3.1.Kind !=(0:Int)))&&(r3.1.Kind !=(2:Int))))then
    (some ((⟨(0:Int),(0:Int),(0:Int),[]⟩:ac),(2:Int)))
    else
    (if(r3.1.Kind==(0:Int))then
    (gY (f9 a1 tl) n fault x sum best)
    else
    (if(a1.Tag==(3:Int))then
    ((td sum r3.1).bind fun r6=>
    mT a1 (f9 a1 tl) n fault x best r3 r6.1)
    else
    (mT a1 (f9 a1 tl) n fault x best r3 sum))))

def sx(a1:hU)(l:(List (List ac))):Option (ac×Int):=
  if(a1.Tag==(1:Int))then
  ((kD (l.length:Int)).bind fun r=>
  some (r,(0:Int)))
  else
  (f9 a1 l (0:Int) (0:Int) (⟨(0:Int),(0:Int),(0:Int),[]⟩:ac) (⟨(0:Int),(0:Int),(0:Int),[]⟩:ac) (⟨(0:Int),(0:Int),(0:Int),[]⟩:ac))

def vd(r:(List ac)):List Int→(List ac)→Option (List ac)
 |[],out=>
  some out
 |e::tl,out=>
  (cN r e).bind fun e1=>
  (app out ([e1])).bind fun out1=>
  (vd r tl) out1

def dI(f:((List ac)→Option Bool)):List (List ac)→Nat→Option Int
 |[],i=>
  some (-1:Int)
 |e::tl,i=>
  (f e).bind fun r=>
  if r then
  (some (i:Int))
  else
  ((dI f tl) (i+1))

def iD(s:(List (List ac)))(f:((List ac)→Option Bool)):Option Int:=
 dI f s 0

def eI(s:(List (List ac)))(f:((List ac)→Option Bool)):Option Bool:=
 (iD s f).bind fun r=>
 some (decide ((0:Int)≤r))

def y4(r:(List ac)):Option Int:=
 (qX r).bind fun r1=>
 if(!r1)then
 (some (150:Int))
 else
 (some (0:Int))

def mq(r:(List ac)):Option Bool:=
 (y4 r).bind fun r1=>
 some (r1 !=(0:Int))

def qA(rows:(List (List ac))):Option Bool:=
  (if(decide ((rows.length:Int)≤(8000:Int)))then((eI rows mq).bind fun r=>
  some (!r))else some false).bind fun t=>
  some t

def s4(r:(List ac))(o:fq):Option Bool:=
 some ((decide (o.Col<(0:Int)))||(decide ((r.length:Int)≤o.Col)))

def ul(r:(List ac))(order:(List fq)):Option Bool:=
 (dK order (s4 r)).bind fun r1=>
 some (!r1)

def qC(a1:(List ac))(b:(List ac))(order:(List fq)):Option Bool:=
  (qA ([a1,b])).bind fun r=>
  (if(!(!r))then((ul a1 order).bind fun r1=>
  some (!r1))else some true).bind fun t=>
  (if(!t)then((ul b order).bind fun r2=>
  some (!r2))else some true).bind fun t1=>
  if t1 then
  (some false)
  else
  ((vX order).bind fun r3=>
  (r3 a1 b).bind fun r4=>
  (gX r4 (0:Int)).bind fun r5=>
  some (decide (r5<(0:Int))))

def gA(r:(List ac)):List (List ac)→Int→Option Int
 |[],k=>
  some k
 |e::tl,k=>
  (ou e r).bind fun r1=>
  if(r1==(0:Int))then
  ((gA r tl) (IntKind.i64.wrap (k+(1:Int))))
  else
  ((gA r tl) k)

def ek(l:(List (List ac)))(r:(List ac)):Option Int:=
 gA r l (0:Int)

def nM(nx:Nat→aj→bc→bc→Option (bc×Int))(i:Nat)(n1:aj)(x:bc)(out:bc):List aj→bc→Option (bc×Int)
 |[],out1=>
  if((i:Int)==(0:Int))then
  (nx (i+1) (aj.mk n1.Op (IntKind.i64.wrap ((out1.Nodes.length:Int)-(1:Int))) n1.B n1.Table n1.Kinds n1.Left n1.Cond n1.Keys n1.Aggs n1.Items n1.Order n1.Limit) x out1)
  else
  (nx (i+1) (aj.mk n1.Op n1.A (IntKind.i64.wrap ((out1.Nodes.length:Int)-(1:Int))) n1.Table n1.Kinds n1.Left n1.Cond n1.Keys n1.Aggs n1.Items n1.Order n1.Limit) x out1)
 |e1::tl1,out1=>
  (oT e1 (out.Nodes.length:Int)).bind fun r3=>
  (app out1.Nodes ([r3])).bind fun l5=>
  (nM nx i n1 x out tl1) ({out1 with Nodes:=l5}:bc)

def iA:List bc→Nat→aj→bc→bc→Option (bc×Int)
 |[],i,n1,x,out=>
  (oT n1 (0:Int)).bind fun r=>
  (app out.Nodes ([r])).bind fun l2=>
  (mG ({out with Nodes:=l2}:bc)).bind fun r1=>
  if(r1.2 !=(0:Int))then
  (some ((⟨[]⟩:bc),r1.2))
  else
  (some (({out with Nodes:=l2}:bc),(0:Int)))
 |e::tl,i,n1,x,out=>
  (mG e).bind fun r2=>
  if(r2.2 !=(0:Int))then
  (some ((⟨[]⟩:bc),r2.2))
  else
  (nM (iA tl) i n1 x out e.Nodes out)

def wL(n:aj)(l:(List bc)):Option (bc×Int):=
 iA l 0 (aj.mk n.Op (-1:Int) (-1:Int) n.Table n.Kinds n.Left n.Cond n.Keys n.Aggs n.Items n.Order n.Limit) (⟨[]⟩:bc) ({(⟨[]⟩:bc)with Nodes:=([]:List aj)}:bc)

def rb(n:aj)(a1:bc):Option (bc×Int):=
 (wL n ([a1])).bind fun r=>
 some (r.1,r.2)

def jF(n:aj)(r4:(List (List ac))×Int)(r9:(List (List ac))×Int):List (List ac)→Nat→Option Bool
  |[],i1=>
    some true
  |e2::tl1,i1=>
    (ek r9.1 e2).bind fun r10=>
    (ek r4.1 e2).bind fun r11=>
    (if(!(decide (r11<r10)))then((if(decide ((0:Int)<(i1:Int)))then((cN r9.1 (IntKind.i64.wrap ((i1:Int)-(1:Int)))).bind fun e3=>
    (qC e2 e3 n.Order).bind fun r12=>
    some r12)else some false).bind fun t4=>
    some t4)else some true).bind fun t3=>
    if t3 then
    (some false)
    else
    ((jF n r4 r9 tl1) (i1+1))

def jG(n:aj)(r4:(List (List ac))×Int)(r7:(List (List ac))×Int)(r9:(List (List ac))×Int)(most:Int):Option Bool:=
 if(((r9.2 !=(0:Int))||((r9.1.length:Int) !=most))||(decide ((r4.1.length:Int)<(r7.1.length:Int))))then
 (some false)
 else
 (jF n r4 r9 r9.1 0)

def ge(l:bc)(b:dv)(n:aj)(r4:(List (List ac))×Int)(r7:(List (List ac))×Int):List (List ac)→Option Bool
  |[]=>
    (rb (⟨(8:Int),(0:Int),(0:Int),(0:Int),[],false,(⟨[]⟩:bJ),[],[],[],n.Order,n.Limit⟩:aj) l).bind fun r8=>
    if(r8.2 !=(0:Int))then
    (some (decide ((r7.1.length:Int)≤(r4.1.length:Int))))
    else
    ((gO r8.1 b).bind fun r9=>
    if(decide ((0:Int)≤n.Limit))then
    (jG n r4 r7 r9 (min (r4.1.length:Int) n.Limit))
    else
    (jG n r4 r7 r9 (r4.1.length:Int)))
  |e1::tl=>
    (ek r7.1 e1).bind fun r13=>
    if(r13 !=(1:Int))then
    (some false)
    else
    ((ge l b n r4 r7 tl))

def ij(l:bc)(b:dv)(n:aj)(r4:(List (List ac))×Int):Option Bool:=
 (rb (⟨(6:Int),(0:Int),(0:Int),(0:Int),[],false,(⟨[]⟩:bJ),[],[],[],[],(0:Int)⟩:aj) l).bind fun r6=>
 (gO r6.1 b).bind fun r7=>
 if((r6.2 !=(0:Int))||(r7.2 !=(0:Int)))then
 (some false)
 else
 (ge l b n r4 r7 r4.1)

def jE(l:bc)(b:dv)(n:aj)(r4:(List (List ac))×Int)(r14:(List (List ac))×Int):List (List ac)→Option Bool
 |[]=>
  ij l b n r4
 |e4::tl2=>
  (ek r14.1 e4).bind fun r15=>
  (ek r4.1 e4).bind fun r16=>
  if(r15 !=r16)then
  (some false)
  else
  ((jE l b n r4 r14 tl2))

def n7(l:bc)(b:dv)(n:aj):Option Bool:=
  (uQ).bind fun r=>
  if(!r)then
  (some false)
  else
  ((qr b).bind fun r1=>
  (if(!r1)then((wM l b).bind fun r2=>
  some r2)else some true).bind fun t=>
  (if(!t)then((kU n.Cond).bind fun r3=>
  some r3)else some true).bind fun t1=>
  if(t1||(decide ((20:Int)<(n.Order.length:Int))))then
  (some true)
  else
  ((gO l b).bind fun r4=>
  (if(!(r4.2 !=(0:Int)))then((cN l.Nodes (IntKind.i64.wrap ((l.Nodes.length:Int)-(1:Int)))).bind fun e=>
  some (e.Op==(8:Int)))else some true).bind fun t2=>
  if(t2||(decide ((60:Int)≤(l.Nodes.length:Int))))then
  (some true)
  else
  ((rb (⟨(3:Int),(0:Int),(0:Int),(0:Int),[],false,n.Cond,[],[],[],[],(0:Int)⟩:aj) l).bind fun r5=>
  (gO r5.1 b).bind fun r14=>
  if((r5.2==(0:Int))&&(r14.2==(0:Int)))then
  (jE l b n r4 r14 r14.1)
  else
  (ij l b n r4))))

end Go.Proofs.YtfhhakidodmdfaaGreatDoor

