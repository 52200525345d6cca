/- cP of this claim: F. -/
import Derived.Test.YtbmmihfagmchaaaGreatRbD
import Derived.Test.YtbmmihfagmchaaaGreatRbV4
set_option linter.all false
namespace Go.Proofs.YtbmmihfagmchaaaGreat
open Go

def yL(k:Int):Option Bool:=
 some (((k==(1:Int))||(k==(2:Int)))||(k==(3:Int)))

def jx(k:Int):Option Bool:=
 (yL k).bind fun r=>
 some (!r)

def eN(f:(Int->Option Bool)):List Int->Nat->Option Int
 |[],i=>
  some (-1:Int)
 |e::tl,i=>
  (f e).bind fun r=>
  if r then
  (some (i:Int))
  else
  ((eN f tl) (i+1))

def jH(s:(List Int))(f:(Int->Option Bool)):Option Int:=
 eN f s 0

def dN(s:(List Int))(f:(Int->Option Bool)):Option Bool:=
 (jH s f).bind fun r=>
 some (decide ((0:Int)<=r))

def fc(c:aq)(n:aa):Option ((List Int)×Bool):=
  (if((((decide ((0:Int)<=n.Table))&&(decide (n.Table<(4:Int))))&&(decide ((1:Int)<=(n.Kinds.length:Int))))&&(decide ((n.Kinds.length:Int)<=(4:Int))))then((dN n.Kinds jx).bind fun r=>
  some (!r))else some false).bind fun t=>
  some (n.Kinds,t)

def ku(s:List Int):Option (List Int):=
 some s

def kw(n:Int):Option (List Int):=
  if(decide ((0:Int)<(IntKind.i64.wrap (n-(IntKind.i64.wrap ((0:Int)-(0:Int)))))))then
  ((RK (IntKind.i64.wrap (n-(IntKind.i64.wrap ((0:Int)-(0:Int)))))).bind fun _=>
  (zx (IntKind.i64.wrap (n-(IntKind.i64.wrap ((0:Int)-(0:Int))))) (0:Int)).bind fun mk=>
  (db mk 0 (0:Int)).bind fun y=>
  ku y)
  else
  (ku ([]:List Int))

def jN(n:Int):Option (List Int):=
 if(decide (n<(0:Int)))then
 (none)
 else
 (kw n)

def hX:List (List Int)->(List Int)->Option (List Int)
 |[],newslice=>
  some newslice
 |e1::tl1,newslice=>
  (jp newslice e1).bind fun newslice1=>
  (hX tl1) newslice1

def hZ(slices:(List (List Int))):List (List Int)->Int->Option (List Int)
 |[],size=>
  (jN size).bind fun r=>
  hX slices r
 |e::tl,size=>
  if(decide ((IntKind.i64.wrap (size+(e.length:Int)))<(0:Int)))then
  (none)
  else
  ((hZ slices tl) (IntKind.i64.wrap (size+(e.length:Int))))

def gS(slices:(List (List Int))):Option (List Int):=
 hZ slices slices (0:Int)

def nl(tag:Int):Option Int:=
  if((tag==(1:Int))||(tag==(2:Int)))then
  (some (0:Int))
  else
  (if((decide ((4:Int)<=tag))&&(decide (tag<=(7:Int))))then
  (some (1:Int))
  else
  (if((decide ((12:Int)<=tag))&&(decide (tag<=(23:Int))))then
  (some (2:Int))
  else
  (some (-1:Int))))

def i7(v1:bK):Option bK:=
 some v1

def nN(v2:bK):Option bK:=
 i7 (bK.mk (0:Int) v2.N v2.U v2.S)

def nM(v:bK):Option bK:=
 nN (bK.mk v.Kind (0:Int) v.U v.S)

def nL(v3:bK):Option bK:=
 i7 v3

def t6(v:bK):Option bK:=
  if(v.Kind==(1:Int))then
  (if((v.N !=(0:Int))&&(v.N !=(1:Int)))then
  (i7 v)
  else
  (nM v))
  else
  (if(v.Kind==(2:Int))then
  (nM v)
  else
  (if(v.Kind==(0:Int))then
  (nN v)
  else
  (if(v.Kind==(3:Int))then
  (if(decide ((v.S.length:Int)<=(40:Int)))then
  (nL (bK.mk (0:Int) v.N v.U ([])))
  else
  (nL v))
  else
  (if(v.Kind==(4:Int))then
  (i7 (bK.mk (0:Int) (0:Int) (0:Int) v.S))
  else
  (i7 v)))))

def q7(v:bK):Option Int:=
 (t6 v).bind fun r=>
 if(!decide (r=(⟨(0:Int),(0:Int),(0:Int),[]⟩:bK)))then
 (some (120:Int))
 else
 (some (0:Int))

def q6(v:bK):Option Bool:=
 (q7 v).bind fun r=>
 some ((r==(0:Int))&&(v.Kind !=(4:Int)))

def rr(n:aj):Option Bool:=
  if(n.Tag==(1:Int))then
  ((q6 n.Value).bind fun r=>
  some (r&&(n.Col==(0:Int))))
  else
  (if(n.Tag==(2:Int))then
  (some (((decide (n.Value=(⟨(0:Int),(0:Int),(0:Int),[]⟩:bK)))&&(decide ((0:Int)<=n.Col)))&&(decide (n.Col<(16:Int)))))
  else
  (some ((decide (n.Value=(⟨(0:Int),(0:Int),(0:Int),[]⟩:bK)))&&(n.Col==(0:Int)))))

def j8(nx:Nat->(List Int)->(List Int)->Option ((List Int)×Bool))(i:Nat)(e1:aj)(all:List Int)(open1:List Int)(r:Int):List Int->Nat->Int->(List Int)->Option ((List Int)×Bool)
  |[],i1,first,at1=>
    if(!decide (at1=([e1.L,e1.R])))then
    (some ([],false))
    else
    ((jp all ([first])).bind fun all1=>
    (db open1 0 (IntKind.i64.wrap ((open1.length:Int)-r))).bind fun y1=>
    (jp y1 ([(i:Int)])).bind fun open2=>
    nx (i+1) all1 open2)
  |e2::tl1,i1,first,at1=>
    (cQ all e2).bind fun e3=>
    (cQ at1 (i1:Int)).bind fun e4=>
    (some (at1.set (i1:Int).toNat e2)).bind fun ar=>
    (j8 nx i e1 all open1 r tl1) (i1+1) (min first e3) ar

def je:List aj->Nat->(List Int)->(List Int)->Option ((List Int)×Bool)
  |[],i,all,open1=>
    some (all,(((open1.length:Int)==(1:Int))&&(decide ((all.length:Int)<=(1000:Int)))))
  |e1::tl,i,all,open1=>
    (nl e1.Tag).bind fun r=>
    (if(!((decide (r<(0:Int)))||(decide ((open1.length:Int)<r))))then((rr e1).bind fun r1=>
    some (!r1))else some true).bind fun t=>
    if t then
    (some ([],false))
    else
    ((db open1 (IntKind.i64.wrap ((open1.length:Int)-r)) (open1.length:Int)).bind fun y=>
    j8 (je tl) i e1 all open1 r y 0 (i:Int) ([(-1:Int),(-1:Int)]))

def pG(e:ai):Option ((List Int)×Bool):=
 je e.Nodes 0 ([]:List Int) ([]:List Int)

def l0(e:ai):Option Int:=
 (pG e).bind fun r=>
 if(!r.2)then
 (some (200:Int))
 else
 (some (0:Int))

def dz(i:Nat)(y:List Int):Nat->Nat->(List Int)->Int->Option (List Int)
  |0,i1,s1,k=>
    (db s1 k (s1.length:Int)).bind fun y1=>
    (some (s1.take k.toNat++List.replicate y1.length (0:Int))).bind fun cl=>
    (db cl 0 k).bind fun y2=>
    some y2
  |k2+1,i1,s1,k=>
    (Bw s1 (i:Int) y.length (i1:Int)).bind fun e3=>
    (Bw s1 (i:Int) y.length (IntKind.i64.wrap ((i1:Int)-(1:Int)))).bind fun e4=>
    if(e3 !=e4)then
    ((Bw s1 (i:Int) y.length (i1:Int)).bind fun e5=>
    (cQ s1 k).bind fun e6=>
    (some (s1.set k.toNat e5)).bind fun st=>
    (dz i y k2) (i1+1) st (IntKind.i64.wrap (k+(1:Int))))
    else
    ((dz i y k2) (i1+1) s1 k)

def ef(s:(List Int)):List Int->Nat->Option (List Int)
  |[],i=>
    some s
  |e::tl,i=>
    (cQ s (IntKind.i64.wrap ((i:Int)-(1:Int)))).bind fun e1=>
    if(e==e1)then
    ((db s (i:Int) (s.length:Int)).bind fun y=>
    dz i y (y.length-1) 1 s (i:Int))
    else
    ((ef s tl) (i+1))

def gw(s:(List Int)):Option (List Int):=
 if(decide ((s.length:Int)<(2:Int)))then
 (some s)
 else
 (ef s (s.drop (1)) 1)

def ii:List aj->(List Int)->Option (List Int)
  |[],out=>
    (xA out).bind fun srt=>
    (gw srt).bind fun r1=>
    some r1
  |e1::tl,out=>
    if(e1.Tag==(2:Int))then
    ((jp out ([e1.Col])).bind fun out1=>
    (ii tl) out1)
    else
    ((ii tl) out)

def kb(e:ai):Option (List Int):=
 (l0 e).bind fun r=>
 if(r !=(0:Int))then
 (some ([]:List Int))
 else
 (ii e.Nodes ([]:List Int))

def co(s:(List Int)):Option (List Int):=
 (jp ([]:List Int) s).bind fun x=>
 some x

def m6(stack:(List Int))(k:Int):Option ((List Int)×(List Int)):=
 (db stack (IntKind.i64.wrap ((stack.length:Int)-k)) (stack.length:Int)).bind fun y=>
 (co y).bind fun r=>
 (db stack 0 (IntKind.i64.wrap ((stack.length:Int)-k))).bind fun y1=>
 some (r,y1)

def j7(bad:Int)(stack:List Int):Option (Int×Int):=
  if(bad !=(0:Int))then
  (some ((0:Int),bad))
  else
  ((cQ stack (0:Int)).bind fun e1=>
  some (e1,(0:Int)))

def gj(do1:(aj->(List Int)->Option (Int×Int))):List aj->Int->(List Int)->Option (Int×Int)
  |[],bad1,stack1=>
    j7 bad1 stack1
  |e2::tl,bad1,stack1=>
    (nl e2.Tag).bind fun r=>
    (m6 stack1 r).bind fun r1=>
    (do1 e2 r1.1).bind fun r2=>
    if(r2.2 !=(0:Int))then
    (j7 r2.2 r1.2)
    else
    ((jp r1.2 ([r2.1])).bind fun l2=>
    (gj do1 tl) bad1 l2)

def mV(e:ai)(do1:(aj->(List Int)->Option (Int×Int))):Option (Int×Int):=
 gj do1 e.Nodes (0:Int) ([]:List Int)

def pU(tag:Int):Option Bool:=
 some ((tag==(4:Int))||((decide ((12:Int)<=tag))&&(decide (tag<=(15:Int)))))

def ka(kinds:(List Int))(n:aj):List Int->Int->Option (Int×Int)
  |[],own=>
    if(n.Tag==(1:Int))then
    (some (n.Value.Kind,(0:Int)))
    else
    (if(n.Tag==(2:Int))then
    ((cQ kinds n.Col).bind fun e1=>
    some (e1,(0:Int)))
    else
    ((pU n.Tag).bind fun r=>
    if r then
    (if((own==(-1:Int))||((own !=(0:Int))&&(own !=(2:Int))))then
    (some ((0:Int),(201:Int)))
    else
    (some ((2:Int),(0:Int))))
    else
    (if(((n.Tag==(5:Int))||(n.Tag==(22:Int)))||(n.Tag==(23:Int)))then
    (if((own==(-1:Int))||((own !=(0:Int))&&(own !=(1:Int))))then
    (some ((0:Int),(201:Int)))
    else
    (some ((1:Int),(0:Int))))
    else
    (if((own==(-1:Int))||((own !=(0:Int))&&(own !=own)))then
    (some ((0:Int),(201:Int)))
    else
    (some ((1:Int),(0:Int)))))))
  |e::tl,own=>
    if((e==(0:Int))||(e==own))then
    ((ka kinds n tl) own)
    else
    (if(own==(0:Int))then
    ((ka kinds n tl) e)
    else
    ((ka kinds n tl) (-1:Int)))

def iz(kinds:(List Int))(n:aj)(l:(List Int)):Option (Int×Int):=
 ka kinds n l (0:Int)

def kO(e:ai)(kinds:(List Int)):List Int->Option (Int×Int)
 |[]=>
  (mV e (iz kinds)).bind fun r2=>
  some (r2.1,r2.2)
 |e2::tl1=>
  if(decide ((kinds.length:Int)<=e2))then
  (some ((0:Int),(2:Int)))
  else
  ((kO e kinds tl1))

def oh(e:ai)(kinds:(List Int)):List Int->Option (Int×Int)
 |[]=>
  (kb e).bind fun r1=>
  kO e kinds r1
 |e1::tl=>
  if((decide (e1<(0:Int)))||(decide ((3:Int)<e1)))then
  (some ((0:Int),(2:Int)))
  else
  ((oh e kinds tl))

def qm(e:ai)(kinds:(List Int)):Option (Int×Int):=
 (l0 e).bind fun r=>
 if(r !=(0:Int))then
 (some ((0:Int),r))
 else
 (oh e kinds kinds)

def pF(e:ai)(kinds:(List Int)):Option Bool:=
 (qm e kinds).bind fun r=>
 some ((r.2==(0:Int))&&((r.1==(1:Int))||(r.1==(0:Int))))

def fV(c:aq)(n:aa):Option ((List Int)×Bool):=
 (cQ c.kinds n.A).bind fun e=>
 (cQ c.kinds n.B).bind fun e1=>
 (gS ([e,e1])).bind fun r=>
 (pF n.Cond r).bind fun r1=>
 some (r,r1)

def fd(c:aq)(n:aa):Option ((List Int)×Bool):=
 (cQ c.kinds n.A).bind fun e=>
 (pF n.Cond e).bind fun r=>
 some (e,r)

def nY(kinds:(List Int))(c:Int):Option Bool:=
 some ((decide (c<(0:Int)))||(decide ((kinds.length:Int)<=c)))

def qb(l:(List Int))(kinds:(List Int)):Option Bool:=
 (dN l (nY kinds)).bind fun r=>
 some (!r)

def qc(r:Int×Int)(x:Bool):Option (Int×Bool):=
 if x then
 (some (r.1,(r.2==(0:Int))))
 else
 (some ((0:Int),false))

def uQ(a1:ik)(kinds:(List Int)):Option (Int×Bool):=
  if(a1.Tag==(1:Int))then
  (some ((2:Int),((a1.Arg.Nodes.length:Int)==(0:Int))))
  else
  ((qm a1.Arg kinds).bind fun r=>
  if(a1.Tag==(2:Int))then
  (some ((2:Int),(r.2==(0:Int))))
  else
  (if(a1.Tag==(3:Int))then
  (some ((2:Int),((r.2==(0:Int))&&((r.1==(2:Int))||(r.1==(0:Int))))))
  else
  (if(a1.Tag==(4:Int))then
  (qc r (a1.Tag==(4:Int)))
  else
  (qc r (a1.Tag==(5:Int))))))

def ek(e:(List Int)):List ik->(List Int)->Bool->Option ((List Int)×Bool)
 |[],out1,ok=>
  some (out1,ok)
 |e2::tl1,out1,ok=>
  (uQ e2 e).bind fun r1=>
  (jp out1 ([r1.1])).bind fun out2=>
  (ek e tl1) out2 (ok&&r1.2)

def fv(n:aa)(e:(List Int))(t:Bool):List Int->(List Int)->Option ((List Int)×Bool)
 |[],out=>
  ek e n.Aggs out t
 |e1::tl,out=>
  (cQ e e1).bind fun e3=>
  (jp out ([e3])).bind fun out3=>
  (fv n e t tl) out3

def fG(c:aq)(n:aa):Option ((List Int)×Bool):=
  (cQ c.kinds n.A).bind fun e=>
  (if(((decide ((n.Keys.length:Int)<=(3:Int)))&&(decide ((n.Aggs.length:Int)<=(12:Int))))&&(decide ((0:Int)<(IntKind.i64.wrap ((n.Keys.length:Int)+(n.Aggs.length:Int))))))then((qb n.Keys e).bind fun r=>
  some r)else some false).bind fun t=>
  if(!t)then
  (some ([],false))
  else
  (fv n e t n.Keys ([]:List Int))

def eJ(c:aq)(n:aa):List ai->(List Int)->Bool->Option ((List Int)×Bool)
 |[],out,ok=>
  some (out,ok)
 |e::tl,out,ok=>
  (cQ c.kinds n.A).bind fun e1=>
  (qm e e1).bind fun r=>
  (jp out ([r.1])).bind fun out1=>
  (eJ c n tl) out1 (ok&&(r.2==(0:Int)))

def eK(c:aq)(n:aa):Option ((List Int)×Bool):=
 eJ c n n.Items ([]:List Int) ((decide ((1:Int)<=(n.Items.length:Int)))&&(decide ((n.Items.length:Int)<=(16:Int))))

def eo(c:aq)(n:aa):Option ((List Int)×Bool):=
 (cQ c.kinds n.A).bind fun e=>
 some (e,true)

def gA(nx:Nat->(List Int)->Bool->Option ((List Int)×Bool))(i:Nat)(e2:Int)(ok:Bool)(out1:List Int):Option ((List Int)×Bool):=
  (if ok then((cQ out1 (i:Int)).bind fun e3=>
  some ((e3==e2)||(e2==(0:Int))))else some false).bind fun t=>
  nx (i+1) out1 t

def de:List Int->Nat->(List Int)->Bool->Option ((List Int)×Bool)
  |[],i,out,ok=>
    some (out,ok)
  |e2::tl,i,out,ok=>
    (cQ out (i:Int)).bind fun e4=>
    if(e4==(0:Int))then
    ((some (out.set (i:Int).toNat e2)).bind fun st=>
    gA (de tl) i e2 ok st)
    else
    (gA (de tl) i e2 ok out)

def fE(c:aq)(n:aa):Option ((List Int)×Bool):=
  (cQ c.kinds n.A).bind fun e=>
  (cQ c.kinds n.B).bind fun e1=>
  if((e.length:Int) !=(e1.length:Int))then
  (some ([],false))
  else
  ((co e).bind fun r=>
  de e1 0 r true)

def jj(in1:(List Int))(o:ly):Option Bool:=
 some ((decide (o.Col<(0:Int)))||(decide ((in1.length:Int)<=o.Col)))

def dh(f:(ly->Option Bool)):List ly->Nat->Option Int
 |[],i=>
  some (-1:Int)
 |e::tl,i=>
  (f e).bind fun r=>
  if r then
  (some (i:Int))
  else
  ((dh f tl) (i+1))

def gu(s:(List ly))(f:(ly->Option Bool)):Option Int:=
 dh f s 0

def d8(s:(List ly))(f:(ly->Option Bool)):Option Bool:=
 (gu s f).bind fun r=>
 some (decide ((0:Int)<=r))

def fF(c:aq)(n:aa):Option ((List Int)×Bool):=
  (cQ c.kinds n.A).bind fun e=>
  (if(decide ((n.Order.length:Int)<=(3:Int)))then((d8 n.Order (jj e)).bind fun r=>
  some (!r))else some false).bind fun t=>
  some (e,(((t&&(decide ((-1:Int)<=n.Limit)))&&(decide (n.Limit<=(2147483647:Int))))&&((c.kinds.length:Int)==(IntKind.i64.wrap ((c.Logic.Nodes.length:Int)-(1:Int))))))

def qP(n:aa):Option Bool:=
 some (((((((((n.Table==(0:Int))&&((n.Kinds.length:Int)==(0:Int)))&&(!n.Left))&&((n.Cond.Nodes.length:Int)==(0:Int)))&&((n.Keys.length:Int)==(0:Int)))&&((n.Aggs.length:Int)==(0:Int)))&&((n.Items.length:Int)==(0:Int)))&&((n.Order.length:Int)==(0:Int)))&&(n.Limit==(0:Int)))

def qQ(n:aa):Option aa:=
  if(n.Op==(1:Int))then
  (some (aa.mk n.Op n.A n.B (0:Int) ([]) n.Left n.Cond n.Keys n.Aggs n.Items n.Order n.Limit))
  else
  (if(n.Op==(2:Int))then
  (some (aa.mk n.Op n.A n.B n.Table n.Kinds false (⟨[]⟩:ai) n.Keys n.Aggs n.Items n.Order n.Limit))
  else
  (if(n.Op==(3:Int))then
  (some (aa.mk n.Op n.A n.B n.Table n.Kinds n.Left (⟨[]⟩:ai) n.Keys n.Aggs n.Items n.Order n.Limit))
  else
  (if(n.Op==(4:Int))then
  (some (aa.mk n.Op n.A n.B n.Table n.Kinds n.Left n.Cond ([]) ([]) n.Items n.Order n.Limit))
  else
  (if(n.Op==(5:Int))then
  (some (aa.mk n.Op n.A n.B n.Table n.Kinds n.Left n.Cond n.Keys n.Aggs ([]) n.Order n.Limit))
  else
  (if(n.Op==(8:Int))then
  (some (aa.mk n.Op n.A n.B n.Table n.Kinds n.Left n.Cond n.Keys n.Aggs n.Items ([]) (0:Int)))
  else
  (some n))))))

def nZ(x:Bool):Option Int:=
 if x then
 (some (2:Int))
 else
 (some (1:Int))

def rg(op:Int):Option Int:=
  if(op==(1:Int))then
  (some (0:Int))
  else
  (if(op==(2:Int))then
  (nZ (op==(2:Int)))
  else
  (nZ (op==(7:Int))))

def iK(c:aq)(i:Int):Option (Int×Bool):=
  (cQ c.Logic.Nodes i).bind fun e=>
  (rg e.Op).bind fun r=>
  if(r==(0:Int))then
  (some (i,((e.A==(-1:Int))&&(e.B==(-1:Int)))))
  else
  (if(r==(1:Int))then
  (if(((e.A !=(IntKind.i64.wrap (i-(1:Int))))||(e.B !=(-1:Int)))||(i==(0:Int)))then
  (some ((0:Int),false))
  else
  ((cQ c.first e.A).bind fun e1=>
  some (e1,true)))
  else
  ((if(!((e.B !=(IntKind.i64.wrap (i-(1:Int))))||(i==(0:Int))))then((cQ c.first e.B).bind fun e2=>
  some (e.A !=(IntKind.i64.wrap (e2-(1:Int)))))else some true).bind fun t=>
  if(t||(decide (e.A<(0:Int))))then
  (some ((0:Int),false))
  else
  ((cQ c.first e.A).bind fun e3=>
  some (e3,true))))

def fx{Sg:Type}(yld:(Int×Bool)->Sg->Option (Bool×Sg))(nx:Nat->Sg->aq->Option (Sg×aq))(i:Nat)(s1:Sg)(ok1:Bool)(kinds:(List Int))(ob2:aq):Option (Sg×aq):=
 (jp ob2.kinds ([kinds])).bind fun l6=>
 (yld ((i:Int),(ok1&&(decide ((kinds.length:Int)<=(16:Int))))) s1).bind fun r2=>
 if((!r2.1)||(!(ok1&&(decide ((kinds.length:Int)<=(16:Int))))))then
 (some (r2.2,({ob2 with kinds:=l6}:aq)))
 else
 (nx (i+1) r2.2 ({ob2 with kinds:=l6}:aq))

def dL{Sg:Type}(yld:(Int×Bool)->Sg->Option (Bool×Sg))(nx:Nat->Sg->aq->Option (Sg×aq))(i:Nat)(e2:aa)(s1:Sg)(ok:Bool)(ob1:aq):Option (Sg×aq):=
  if ok then
  ((((nX (ez (ez (ez (ez (ez (ez (ez (ez ([]:List (Int×(aq->aa->Option (((List Int)×Bool)×aq)))) (1:Int) (fun(mc:aq) (mx:aa)=>(fc mc mx).map fun mr=>(mr,mc))) (2:Int) (fun(mc:aq) (mx:aa)=>(fV mc mx).map fun mr=>(mr,mc))) (3:Int) (fun(mc:aq) (mx:aa)=>(fd mc mx).map fun mr=>(mr,mc))) (4:Int) (fun(mc:aq) (mx:aa)=>(fG mc mx).map fun mr=>(mr,mc))) (5:Int) (fun(mc:aq) (mx:aa)=>(eK mc mx).map fun mr=>(mr,mc))) (6:Int) (fun(mc:aq) (mx:aa)=>(eo mc mx).map fun mr=>(mr,mc))) (7:Int) (fun(mc:aq) (mx:aa)=>(fE mc mx).map fun mr=>(mr,mc))) (8:Int) (fun(mc:aq) (mx:aa)=>(fF mc mx).map fun mr=>(mr,mc))) e2.Op).getD (fun _ _=>none)) ob1 (e2)).bind fun r3=>
  fx yld nx i s1 r3.1.2 r3.1.1 r3.2)
  else
  (fx yld nx i s1 ok ([]) ob1)

def bl{Sg:Type}(yld:(Int×Bool)->Sg->Option (Bool×Sg)):List aa->Nat->Sg->aq->Option (Sg×aq)
  |[],i,s1,ob=>
    some (s1,ob)
  |e2::tl,i,s1,ob=>
    (if((nX (ez (ez (ez (ez (ez (ez (ez (ez ([]:List (Int×(aq->aa->Option (((List Int)×Bool)×aq)))) (1:Int) (fun(mc:aq) (mx:aa)=>(fc mc mx).map fun mr=>(mr,mc))) (2:Int) (fun(mc:aq) (mx:aa)=>(fV mc mx).map fun mr=>(mr,mc))) (3:Int) (fun(mc:aq) (mx:aa)=>(fd mc mx).map fun mr=>(mr,mc))) (4:Int) (fun(mc:aq) (mx:aa)=>(fG mc mx).map fun mr=>(mr,mc))) (5:Int) (fun(mc:aq) (mx:aa)=>(eK mc mx).map fun mr=>(mr,mc))) (6:Int) (fun(mc:aq) (mx:aa)=>(eo mc mx).map fun mr=>(mr,mc))) (7:Int) (fun(mc:aq) (mx:aa)=>(fE mc mx).map fun mr=>(mr,mc))) (8:Int) (fun(mc:aq) (mx:aa)=>(fF mc mx).map fun mr=>(mr,mc))) e2.Op).isSome)then((qQ e2).bind fun r=>
    (qP r).bind fun r1=>
    some r1)else some false).bind fun t=>
    if t then
    ((iK ob (i:Int)).bind fun r4=>
    (jp ob.first ([r4.1])).bind fun l7=>
    dL yld (bl yld tl) i e2 s1 r4.2 ({ob with first:=l7}:aq))
    else
    (dL yld (bl yld tl) i e2 s1 t ob)

def jQ{Sg:Type}(c:aq)(yld:(Int×Bool)->Sg->Option (Bool×Sg))(s:Sg):Option (Sg×aq):=
 bl yld c.Logic.Nodes 0 s c

def n6(c:aq):Option (I9 (Int×Bool) aq):=
 some (fun _=>jQ c)

def mS(x:Int×Bool)(x1:Bool)(x2:Int)(p:Bool):Option (Option Nat×(Bool×Int×Bool)):=
 if(!x.2)then
 (some (some 0,(false,x.1,true)))
 else
 (some (none,(x1,x2,p)))

def lT(l:aw):Option (aq×Int×Bool):=
  if((decide ((l.Nodes.length:Int)<(1:Int)))||(decide ((60:Int)<(l.Nodes.length:Int))))then
  (some ((⟨l,[],[]⟩:aq),(0:Int),false))
  else
  ((n6 (⟨l,[],[]⟩:aq)).bind fun it=>
  (it (Option Nat×(Bool×Int×Bool)) (xe (fun x s=>mS x s.1 s.2.1 s.2.2)) (none,(false,(0:Int),false))).bind fun r=>
  if r.1.1.isNone then
  ((cQ r.2.first (IntKind.i64.wrap ((l.Nodes.length:Int)-(1:Int)))).bind fun e=>
  some (r.2,(IntKind.i64.wrap ((l.Nodes.length:Int)-(1:Int))),(e==(0:Int))))
  else
  ((RX r.1.2.2.2).bind fun _=>
  some (r.2,r.1.2.2.1,r.1.2.1)))

def iS(l:aw):Option (Int×Int):=
 (lT l).bind fun r=>
 if(!r.2.2)then
 (some (r.2.1,(230:Int)))
 else
 (some ((0:Int),(0:Int)))

def aU(s:(List aj)):Option (List aj):=
 (jp ([]:List aj) s).bind fun x=>
 some x

def dD(s:(List ly)):Option (List ly):=
 (jp ([]:List ly) s).bind fun x=>
 some x

def eD(s:(List ik)):Option (List ik):=
 (jp ([]:List ik) s).bind fun x=>
 some x

def cc(s:(List ai)):Option (List ai):=
 (jp ([]:List ai) s).bind fun x=>
 some x

def kT:List ai->Nat->aa->Option aa
 |[],i1,n4=>
  some n4
 |e1::tl1,i1,n4=>
  (cQ n4.Items (i1:Int)).bind fun e2=>
  (aU e2.Nodes).bind fun r6=>
  (some (n4.Items.set (i1:Int).toNat ({e2 with Nodes:=r6}:ai))).bind fun st=>
  (kT tl1) (i1+1) ({n4 with Items:=st}:aa)

def kU:List ik->Nat->aa->Option aa
 |[],i,n3=>
  kT n3.Items 0 n3
 |e::tl,i,n3=>
  (cQ n3.Aggs (i:Int)).bind fun e3=>
  (aU e3.Arg.Nodes).bind fun r7=>
  (some (n3.Aggs.set (i:Int).toNat ({e3 with Arg:=({e3.Arg with Nodes:=r7}:ai)}:ik))).bind fun st1=>
  (kU tl) (i+1) ({n3 with Aggs:=st1}:aa)

def kV(n2:aa):Option aa:=
 (co n2.Kinds).bind fun r=>
 (co n2.Keys).bind fun r1=>
 (dD n2.Order).bind fun r2=>
 (aU (((aa.mk n2.Op n2.A n2.B n2.Table r n2.Left n2.Cond r1 n2.Aggs n2.Items r2 n2.Limit).Cond).Nodes)).bind fun r3=>
 (eD (({(aa.mk n2.Op n2.A n2.B n2.Table r n2.Left n2.Cond r1 n2.Aggs n2.Items r2 n2.Limit)with Cond:=({(aa.mk n2.Op n2.A n2.B n2.Table r n2.Left n2.Cond r1 n2.Aggs n2.Items r2 n2.Limit).Cond with Nodes:=r3}:ai)}:aa).Aggs)).bind fun r4=>
 (cc (({(aa.mk n2.Op n2.A n2.B n2.Table r n2.Left n2.Cond r1 n2.Aggs n2.Items r2 n2.Limit)with Cond:=({(aa.mk n2.Op n2.A n2.B n2.Table r n2.Left n2.Cond r1 n2.Aggs n2.Items r2 n2.Limit).Cond with Nodes:=r3}:ai)}:aa).Items)).bind fun r5=>
 kU r4 0 ({({({(aa.mk n2.Op n2.A n2.B n2.Table r n2.Left n2.Cond r1 n2.Aggs n2.Items r2 n2.Limit)with Cond:=({(aa.mk n2.Op n2.A n2.B n2.Table r n2.Left n2.Cond r1 n2.Aggs n2.Items r2 n2.Limit).Cond with Nodes:=r3}:ai)}:aa)with Aggs:=r4}:aa)with Items:=r5}:aa)

def m5(by1:Int)(n1:aa):Option aa:=
 if(decide ((0:Int)<=n1.B))then
 (kV (aa.mk n1.Op n1.A (IntKind.i64.wrap (n1.B+by1)) n1.Table n1.Kinds n1.Left n1.Cond n1.Keys n1.Aggs n1.Items n1.Order n1.Limit))
 else
 (kV n1)

def mp(n:aa)(by1:Int):Option aa:=
 if(decide ((0:Int)<=n.A))then
 (m5 by1 (aa.mk n.Op (IntKind.i64.wrap (n.A+by1)) n.B n.Table n.Kinds n.Left n.Cond n.Keys n.Aggs n.Items n.Order n.Limit))
 else
 (m5 by1 n)

def lc(nx:Nat->aa->aw->aw->Option (aw×Int))(i:Nat)(n1:aa)(x:aw)(out:aw):List aa->aw->Option (aw×Int)
 |[],out1=>
  if((i:Int)==(0:Int))then
  (nx (i+1) (aa.mk n1.Op (IntKind.i64.wrap ((out1.Nodes.length:Int)-(1:Int))) n1.B n1.Table n1.Kinds n1.Left n1.Cond n1.Keys n1.Aggs n1.Items n1.Order n1.Limit) x out1)
  else
  (nx (i+1) (aa.mk n1.Op n1.A (IntKind.i64.wrap ((out1.Nodes.length:Int)-(1:Int))) n1.Table n1.Kinds n1.Left n1.Cond n1.Keys n1.Aggs n1.Items n1.Order n1.Limit) x out1)
 |e1::tl1,out1=>
  (mp e1 (out.Nodes.length:Int)).bind fun r3=>
  (jp out1.Nodes ([r3])).bind fun l5=>
  (lc nx i n1 x out tl1) ({out1 with Nodes:=l5}:aw)

def gq:List aw->Nat->aa->aw->aw->Option (aw×Int)
 |[],i,n1,x,out=>
  (mp n1 (0:Int)).bind fun r=>
  (jp out.Nodes ([r])).bind fun l2=>
  (iS ({out with Nodes:=l2}:aw)).bind fun r1=>
  if(r1.2 !=(0:Int))then
  (some ((⟨[]⟩:aw),r1.2))
  else
  (some (({out with Nodes:=l2}:aw),(0:Int)))
 |e::tl,i,n1,x,out=>
  (iS e).bind fun r2=>
  if(r2.2 !=(0:Int))then
  (some ((⟨[]⟩:aw),r2.2))
  else
  (lc (gq tl) i n1 x out e.Nodes out)

def nd(n:aa)(l:(List aw)):Option (aw×Int):=
 gq l 0 (aa.mk n.Op (-1:Int) (-1:Int) n.Table n.Kinds n.Left n.Cond n.Keys n.Aggs n.Items n.Order n.Limit) (⟨[]⟩:aw) ({(⟨[]⟩:aw)with Nodes:=([]:List aa)}:aw)

def xP(n:aa)(a1:aw)(b:aw):Option (aw×Int):=
 (nd n ([a1,b])).bind fun r=>
 some (r.1,r.2)

def xQ(n:aa)(a1:aw):Option (aw×Int):=
 (nd n ([a1])).bind fun r=>
 some (r.1,r.2)

def kQ(parts:(List am))(e:Int)(l:aw):Option (am×Bool):=
  if(e !=(0:Int))then
  (some ((⟨(⟨[]⟩:aw),(⟨(0:Int),(0:Int),(0:Int),(0:Int),[],false,(⟨[]⟩:ai),[],[],[],[],(0:Int)⟩:aa),[]⟩:am),false))
  else
  ((cQ l.Nodes (IntKind.i64.wrap ((l.Nodes.length:Int)-(1:Int)))).bind fun e1=>
  some ((⟨l,e1,parts⟩:am),true))

def dV(n:aa)(parts:(List am)):Option (am×Bool):=
  if((parts.length:Int)==(2:Int))then
  ((cQ parts (0:Int)).bind fun e2=>
  (cQ parts (1:Int)).bind fun e3=>
  (xP n e2.Logic e3.Logic).bind fun r=>
  kQ parts r.2 r.1)
  else
  ((cQ parts (0:Int)).bind fun e4=>
  (xQ n e4.Logic).bind fun r1=>
  kQ parts r1.2 r1.1)

def cN(rec__:Option (List (Int×(am->Bool->Option (am×Int)))))(t:am)(deep:Bool):Option (am×Int):=
  (rec__).bind fun r=>
  if((nX r t.root.Op).isSome)then
  ((((nX r t.root.Op)).bind fun y=>y t deep).bind fun r1=>
  some (r1.1,r1.2))
  else
  (some (t,(0:Int)))

def dE(rec__:Option (List (Int×(am->Bool->Option (am×Int))))):Nat->am->am->Option (am×Bool)
  |0,_,_=>none
  |n+1,t1,x=>
    ((cN rec__) t1 true).bind fun r=>
    if(r.2==(0:Int))then
    (some (t1,true))
    else
    (if(r.2==(2:Int))then
    (some (t1,false))
    else
    ((dE rec__ n) r.1 x))

def jV(rec__:Option (List (Int×(am->Bool->Option (am×Int)))))(t:am):Option (am×Bool):=
 dE rec__ fQ t (⟨(⟨[]⟩:aw),(⟨(0:Int),(0:Int),(0:Int),(0:Int),[],false,(⟨[]⟩:ai),[],[],[],[],(0:Int)⟩:aa),[]⟩:am)

def rK(v:bK):Option bK:=
 some v

def sT(b:Bool):Option bK:=
 if b then
 (rK (bK.mk (⟨(1:Int),(0:Int),(0:Int),[]⟩:bK).Kind (1:Int) (⟨(1:Int),(0:Int),(0:Int),[]⟩:bK).U (⟨(1:Int),(0:Int),(0:Int),[]⟩:bK).S))
 else
 (rK (⟨(1:Int),(0:Int),(0:Int),[]⟩:bK))

def lj:List ai->Int->Option (Int×Int)
 |[],n=>
  some (n,(0:Int))
 |e::tl,n=>
  (l0 e).bind fun r=>
  if(r !=(0:Int))then
  (some ((0:Int),r))
  else
  ((lj tl) (IntKind.i64.wrap (n+(e.Nodes.length:Int))))

def oY(l:(List ai)):Option (Int×Int):=
 lj l (0:Int)

def od(nx:(List aj)->Option (List aj))(out1:List aj)(n1:aj):Option (List aj):=
 (jp out1 ([n1])).bind fun out2=>
 nx out2

def oe(out:(List aj))(nx:(List aj)->Option (List aj))(out1:List aj)(n:aj):Option (List aj):=
 if(decide ((0:Int)<=n.R))then
 (od nx out1 (aj.mk n.Tag n.L (IntKind.i64.wrap (n.R+(out.length:Int))) n.Col n.Value))
 else
 (od nx out1 n)

def ig(out:(List aj)):List aj->(List aj)->Option (List aj)
 |[],out1=>
  some out1
 |e1::tl,out1=>
  if(decide ((0:Int)<=e1.L))then
  (oe out (ig out tl) out1 (aj.mk e1.Tag (IntKind.i64.wrap (e1.L+(out.length:Int))) e1.R e1.Col e1.Value))
  else
  (oe out (ig out tl) out1 e1)

def uW(out:(List aj))(e:ai):Option (List aj):=
 ig out e.Nodes out

def gB(root:aj):List ai->Nat->(List aj)->(List Int)->Option ai
 |[],i,out,at1=>
  (cQ at1 (0:Int)).bind fun e1=>
  (cQ at1 (1:Int)).bind fun e2=>
  (jp out ([(aj.mk ({root with L:=e1}:aj).Tag ({root with L:=e1}:aj).L e2 ({root with L:=e1}:aj).Col ({root with L:=e1}:aj).Value)])).bind fun l2=>
  some (⟨l2⟩:ai)
 |e::tl,i,out,at1=>
  (uW out e).bind fun r=>
  (cQ at1 (i:Int)).bind fun e3=>
  (some (at1.set (i:Int).toNat (IntKind.i64.wrap ((r.length:Int)-(1:Int))))).bind fun ar=>
  (gB root tl) (i+1) r ar

def iT(root:aj)(l:(List ai)):Option ai:=
 gB root l 0 ([]:List aj) ([(-1:Int),(-1:Int)])

def pI:List ai->ai->Option (ai×Int)
 |[],out=>
  some (out,(0:Int))
 |e1::tl,out=>
  (iT (⟨(22:Int),(0:Int),(0:Int),(0:Int),(⟨(0:Int),(0:Int),(0:Int),[]⟩:bK)⟩:aj) ([out,e1])).bind fun r2=>
  (pI tl) r2

def om(l:(List ai)):Option (ai×Int):=
  (oY l).bind fun r=>
  if(r.2 !=(0:Int))then
  (some ((⟨[]⟩:ai),r.2))
  else
  (if((l.length:Int)==(0:Int))then
  (some ((⟨[]⟩:ai),(2:Int)))
  else
  (if(decide ((1000:Int)<(IntKind.i64.wrap ((IntKind.i64.wrap (r.1+(l.length:Int)))-(1:Int)))))then
  (some ((⟨[]⟩:ai),(3:Int)))
  else
  ((cQ l (0:Int)).bind fun e=>
  (aU e.Nodes).bind fun r1=>
  (db l (1:Int) (l.length:Int)).bind fun y=>
  pI y (⟨r1⟩:ai))))

def ia(t:am)(ok:Bool):Option (am×Int):=
 if(!ok)then
 (some (t,(2:Int)))
 else
 (some (t,(1:Int)))

def cv(rec__:Option (List (Int×(am->Bool->Option (am×Int)))))(t:am)(by1:(List ai))(deep:Bool):Option (am×Bool):=
  if((by1.length:Int)==(0:Int))then
  (some (t,true))
  else
  ((om by1).bind fun r=>
  (dV (⟨(3:Int),(0:Int),(0:Int),(0:Int),[],false,r.1,[],[],[],[],(0:Int)⟩:aa) ([t])).bind fun r1=>
  if(r1.2&&deep)then
  (((jV rec__) r1.1).bind fun r2=>
  some (r2.1,r2.2))
  else
  (some (r1.1,r1.2)))

def ol(nx:(List ai)->(List Int)->Option (List ai))(out1:List ai)(open2:List Int):Option (List ai):=
 nx out1 open2

def oj(e3:Int)(nx1:Nat->ai->Option (List ai))(i:Nat)(part1:ai):Option (List ai):=
  (cQ part1.Nodes (i:Int)).bind fun e6=>
  if(decide ((0:Int)<=e6.R))then
  ((some (part1.Nodes.set (i:Int).toNat ({e6 with R:=(IntKind.i64.wrap (e6.R-e3))}:aj))).bind fun st=>
  nx1 (i+1) ({part1 with Nodes:=st}:ai))
  else
  (nx1 (i+1) part1)

def iO(nx:(List ai)->(List Int)->Option (List ai))(out:List ai)(y:List Int)(e3:Int):List aj->Nat->ai->Option (List ai)
  |[],i,part=>
    (jp out ([part])).bind fun out2=>
    ol nx out2 y
  |e4::tl,i,part=>
    (cQ part.Nodes (i:Int)).bind fun e5=>
    if(decide ((0:Int)<=e5.L))then
    ((some (part.Nodes.set (i:Int).toNat ({e5 with L:=(IntKind.i64.wrap (e5.L-e3))}:aj))).bind fun st1=>
    oj e3 (iO nx out y e3 tl) i ({part with Nodes:=st1}:ai))
    else
    (oj e3 (iO nx out y e3 tl) i part)

def gC(e:ai)(r:(List Int)×Bool):Nat->(List ai)->(List Int)->Option (List ai)
  |0,_,_=>none
  |n+1,out,open1=>
    if(decide ((0:Int)<(open1.length:Int)))then
    ((cQ open1 (IntKind.i64.wrap ((open1.length:Int)-(1:Int)))).bind fun e1=>
    (db open1 0 (IntKind.i64.wrap ((open1.length:Int)-(1:Int)))).bind fun y=>
    (cQ e.Nodes e1).bind fun e2=>
    if(e2.Tag==(22:Int))then
    ((jp y ([e2.R,e2.L])).bind fun open3=>
    ol (gC e r n) out open3)
    else
    ((cQ r.1 e1).bind fun e3=>
    (db e.Nodes e3 (IntKind.i64.wrap (e1+(1:Int)))).bind fun y1=>
    (aU y1).bind fun r1=>
    iO (gC e r n) out y e3 r1 0 ({(⟨r1⟩:ai)with Nodes:=r1}:ai)))
    else
    (some out)

def uX(e:ai):Option (List ai):=
 (pG e).bind fun r=>
 if(!r.2)then
 (some ([]:List ai))
 else
 (gC e r fQ ([]:List ai) ([(IntKind.i64.wrap ((e.Nodes.length:Int)-(1:Int)))]))

def pj(nx:Nat->ai->ai->Option (ai×Int))(i:Nat)(x1:ai)(out1:ai):Option (ai×Int):=
 nx (i+1) x1 out1

def iU(by1:Int):List aj->Nat->ai->ai->Option (ai×Int)
  |[],i,x,out=>
    some (out,(0:Int))
  |e1::tl,i,x,out=>
    (cQ out.Nodes (i:Int)).bind fun e2=>
    if(e2.Tag !=(2:Int))then
    (pj (iU by1 tl) i x out)
    else
    (if((decide (by1<(IntKind.i64.wrap (0-e2.Col))))||(decide ((IntKind.i64.wrap ((16:Int)-e2.Col))<=by1)))then
    (some ((⟨[]⟩:ai),(2:Int)))
    else
    ((some (out.Nodes.set (i:Int).toNat ({e2 with Col:=(IntKind.i64.wrap (e2.Col+by1))}:aj))).bind fun st=>
    pj (iU by1 tl) i x ({out with Nodes:=st}:ai)))

def td(e:ai)(by1:Int):Option (ai×Int):=
  (l0 e).bind fun r=>
  if(r !=(0:Int))then
  (some ((⟨[]⟩:ai),r))
  else
  ((aU e.Nodes).bind fun r1=>
  iU by1 r1 0 (⟨[]⟩:ai) ({(⟨r1⟩:ai)with Nodes:=r1}:ai))

def f9(left:Int)(outer:Bool):List ai->(List (List ai))->Option (List (List ai))
  |[],to1=>
    some ([(mo to1 0),(mo to1 1),(mo to1 2)])
  |e::tl,to1=>
    (kb e).bind fun r1=>
    (if(!((r1.length:Int)==(0:Int)))then((cQ r1 (IntKind.i64.wrap ((r1.length:Int)-(1:Int)))).bind fun e1=>
    some (decide (e1<left)))else some true).bind fun t=>
    if t then
    ((jp (mo to1 0) ([e])).bind fun l5=>
    (f9 left outer tl) ([l5,(mo to1 1),(mo to1 2)]))
    else
    ((cQ r1 (0:Int)).bind fun e2=>
    if((decide (left<=e2))&&(!outer))then
    ((td e (IntKind.i64.wrap (0-left))).bind fun r2=>
    (jp (mo to1 1) ([r2.1])).bind fun l7=>
    (f9 left outer tl) ([(mo to1 0),l7,(mo to1 2)]))
    else
    ((jp (mo to1 2) ([e])).bind fun l9=>
    (f9 left outer tl) ([(mo to1 0),(mo to1 1),l9])))

def mK(cond:ai)(left:Int)(outer:Bool):Option (List (List ai)):=
 (uX cond).bind fun r=>
 f9 left outer r ([([]:List ai),([]:List ai),([]:List ai)])

def iv(l:aw):Option ((List Int)×Int):=
  (lT l).bind fun r=>
  if(!r.2.2)then
  (some ([],(230:Int)))
  else
  ((cQ r.1.kinds r.2.1).bind fun e=>
  (co e).bind fun r1=>
  some (r1,(0:Int)))

def fH(rec__:Option (List (Int×(am->Bool->Option (am×Int)))))(t:am)(deep:Bool)(e:am)(r1:(List (List ai))):List am->Nat->(List am)->am->Option (am×Int)
  |[],i,parts,x=>
    (dV (⟨(2:Int),(0:Int),(0:Int),(0:Int),[],e.root.Left,e.root.Cond,[],[],[],[],(0:Int)⟩:aa) parts).bind fun r2=>
    if(!r2.2)then
    (some (t,(2:Int)))
    else
    ((cQ r1 (2:Int)).bind fun e5=>
    ((cv rec__) r2.1 e5 false).bind fun r3=>
    (ia r3.1 r3.2).bind fun r4=>
    some (r4.1,r4.2))
  |e4::tl,i,parts,x=>
    (cQ r1 (i:Int)).bind fun e6=>
    ((cv rec__) e4 e6 deep).bind fun r5=>
    if(!r5.2)then
    (some (t,(2:Int)))
    else
    ((jp parts ([r5.1])).bind fun parts1=>
    (fH rec__ t deep e r1 tl) (i+1) parts1 x)

def gc(rec__:Option (List (Int×(am->Bool->Option (am×Int)))))(t:am)(deep:Bool):Option (am×Int):=
 (cQ t.parts (0:Int)).bind fun e=>
 (cQ e.parts (0:Int)).bind fun e1=>
 (iv e1.Logic).bind fun r=>
 (mK t.root.Cond (r.1.length:Int) e.root.Left).bind fun r1=>
 (cQ r1 (0:Int)).bind fun e2=>
 (cQ r1 (1:Int)).bind fun e3=>
 if((IntKind.i64.wrap ((e2.length:Int)+(e3.length:Int)))==(0:Int))then
 (some (t,(0:Int)))
 else
 (fH rec__ t deep e r1 e.parts 0 ([]:List am) (⟨(⟨[]⟩:aw),(⟨(0:Int),(0:Int),(0:Int),(0:Int),[],false,(⟨[]⟩:ai),[],[],[],[],(0:Int)⟩:aa),[]⟩:am))

def bY(f:(aj->Option Bool)):List aj->Nat->Option Int
 |[],i=>
  some (-1:Int)
 |e::tl,i=>
  (f e).bind fun r=>
  if r then
  (some (i:Int))
  else
  ((bY f tl) (i+1))

def dT(s:(List aj))(f:(aj->Option Bool)):Option Int:=
 bY f s 0

def cK(s:(List aj))(f:(aj->Option Bool)):Option Bool:=
 (dT s f).bind fun r=>
 some (decide ((0:Int)<=r))

def nw(n:aj):Option Bool:=
 (pU n.Tag).bind fun r=>
 some r

def j9(e:ai):Option Bool:=
  (l0 e).bind fun r=>
  (if(r==(0:Int))then((cK e.Nodes nw).bind fun r1=>
  some (!r1))else some false).bind fun t=>
  some t

def dF(rec__:Option (List (Int×(am->Bool->Option (am×Int)))))(t:am)(deep:Bool):Option (am×Int):=
  (cQ t.parts (0:Int)).bind fun e=>
  (j9 t.root.Cond).bind fun r=>
  (if((t.root.Cond.Nodes.length:Int)==(1:Int))then((cQ t.root.Cond.Nodes (0:Int)).bind fun e1=>
  (sT true).bind fun r1=>
  some (decide (e1.Value=r1)))else some false).bind fun t1=>
  if t1 then
  (some (e,(1:Int)))
  else
  (if((e.root.Op==(3:Int))&&r)then
  ((om ([e.root.Cond,t.root.Cond])).bind fun r2=>
  if(r2.2 !=(0:Int))then
  (some (t,(0:Int)))
  else
  ((cQ e.parts (0:Int)).bind fun e2=>
  (dV (⟨(3:Int),(0:Int),(0:Int),(0:Int),[],false,r2.1,[],[],[],[],(0:Int)⟩:aa) ([e2])).bind fun r3=>
  (ia r3.1 r3.2).bind fun r4=>
  some (r4.1,r4.2)))
  else
  ((if((e.root.Op==(2:Int))&&r)then((j9 e.root.Cond).bind fun r5=>
  some r5)else some false).bind fun t2=>
  if t2 then
  (((gc rec__) t deep).bind fun r6=>
  some (r6.1,r6.2))
  else
  (some (t,(0:Int)))))

def iD(e:ai):Option Bool:=
 (j9 e).bind fun r=>
 some (!r)

def jA(stack:(List ai))(k:Int):Option ((List ai)×(List ai)):=
 (db stack (IntKind.i64.wrap ((stack.length:Int)-k)) (stack.length:Int)).bind fun y=>
 (cc y).bind fun r=>
 (db stack 0 (IntKind.i64.wrap ((stack.length:Int)-k))).bind fun y1=>
 some (r,y1)

def lw(bad:Int)(stack:List ai):Option (ai×Int):=
  if(bad !=(0:Int))then
  (some ((⟨[]⟩:ai),bad))
  else
  ((cQ stack (0:Int)).bind fun e1=>
  some (e1,(0:Int)))

def dS(do1:(aj->(List ai)->Option (ai×Int))):List aj->Int->(List ai)->Option (ai×Int)
  |[],bad1,stack1=>
    lw bad1 stack1
  |e2::tl,bad1,stack1=>
    (nl e2.Tag).bind fun r=>
    (jA stack1 r).bind fun r1=>
    (do1 e2 r1.1).bind fun r2=>
    if(r2.2 !=(0:Int))then
    (lw r2.2 r1.2)
    else
    ((jp r1.2 ([r2.1])).bind fun l2=>
    (dS do1 tl) bad1 l2)

def jd(e:ai)(do1:(aj->(List ai)->Option (ai×Int))):Option (ai×Int):=
 dS do1 e.Nodes (0:Int) ([]:List ai)

def gZ(c:(List ai))(n:aj)(parts:(List ai)):Option (ai×Int):=
  if(n.Tag==(2:Int))then
  ((cQ c n.Col).bind fun e=>
  (aU e.Nodes).bind fun r=>
  some ((⟨r⟩:ai),(0:Int)))
  else
  ((iT n parts).bind fun r1=>
  some (r1,(0:Int)))

def km(e:ai)(l:(List ai)):List aj->Int->Option (ai×Int)
  |[],n=>
    if(decide ((1000:Int)<n))then
    (some ((⟨[]⟩:ai),(3:Int)))
    else
    ((jd e (gZ l)).bind fun r2=>
    some (r2.1,r2.2))
  |e2::tl1,n=>
    if(e2.Tag==(2:Int))then
    ((cQ l e2.Col).bind fun e3=>
    (km e l tl1) (IntKind.i64.wrap ((IntKind.i64.wrap (n+(1:Int)))+(IntKind.i64.wrap ((e3.Nodes.length:Int)-(1:Int))))))
    else
    ((km e l tl1) (IntKind.i64.wrap (n+(1:Int))))

def pH(e:ai)(l:(List ai)):List Int->ai->Option (ai×Int)
 |[],x=>
  km e l e.Nodes (0:Int)
 |e1::tl,x=>
  if(decide ((l.length:Int)<=e1))then
  (some ((⟨[]⟩:ai),(2:Int)))
  else
  ((pH e l tl) x)

def w9(e:ai)(l:(List ai)):Option (ai×Int):=
  (jp ([e]) l).bind fun l2=>
  (oY l2).bind fun r=>
  if(r.2 !=(0:Int))then
  (some ((⟨[]⟩:ai),r.2))
  else
  ((kb e).bind fun r1=>
  pH e l r1 (⟨[]⟩:ai))

def cV(f:(ai->Option Bool)):List ai->Nat->Option Int
 |[],i=>
  some (-1:Int)
 |e::tl,i=>
  (f e).bind fun r=>
  if r then
  (some (i:Int))
  else
  ((cV f tl) (i+1))

def ei(s:(List ai))(f:(ai->Option Bool)):Option Int:=
 cV f s 0

def bM(s:(List ai))(f:(ai->Option Bool)):Option Bool:=
 (ei s f).bind fun r=>
 some (decide ((0:Int)<=r))

def fb(t:am)(e:am):List ai->(List ai)->am->Option (am×Int)
  |[],items,x1=>
    (cQ e.parts (0:Int)).bind fun e2=>
    (dV (⟨(5:Int),(0:Int),(0:Int),(0:Int),[],false,(⟨[]⟩:ai),[],[],items,[],(0:Int)⟩:aa) ([e2])).bind fun r1=>
    (ia r1.1 r1.2).bind fun r2=>
    some (r2.1,r2.2)
  |e1::tl,items,x1=>
    (w9 e1 e.root.Items).bind fun r3=>
    if(r3.2 !=(0:Int))then
    (some (t,(0:Int)))
    else
    ((jp items ([r3.1])).bind fun items1=>
    (fb t e tl) items1 x1)

def eE(t:am)(x:Bool):Option (am×Int):=
  (cQ t.parts (0:Int)).bind fun e=>
  (if(!(e.root.Op !=(5:Int)))then((bM e.root.Items iD).bind fun r=>
  some r)else some true).bind fun t1=>
  if t1 then
  (some (t,(0:Int)))
  else
  (fb t e t.root.Items ([]:List ai) (⟨(⟨[]⟩:aw),(⟨(0:Int),(0:Int),(0:Int),(0:Int),[],false,(⟨[]⟩:ai),[],[],[],[],(0:Int)⟩:aa),[]⟩:am))

def gF(t:am)(e:am)(has:List (Int×Bool)):List Int->Nat->am->Option (am×Int)
 |[],i1,x1=>
  some (e,(1:Int))
 |e3::tl1,i1,x1=>
  if(!((nX has (i1:Int)).getD false))then
  (some (t,(0:Int)))
  else
  ((gF t e has tl1) (i1+1) x1)

def fD(t:am)(e:am)(y:am):List ai->(List (Int×Bool))->Option (am×Int)
 |[],has=>
  gF t e has y.root.Keys 0 (⟨(⟨[]⟩:aw),(⟨(0:Int),(0:Int),(0:Int),(0:Int),[],false,(⟨[]⟩:ai),[],[],[],[],(0:Int)⟩:aa),[]⟩:am)
 |e2::tl,has=>
  (cQ e2.Nodes (0:Int)).bind fun e4=>
  if(((e2.Nodes.length:Int)==(1:Int))&&(e4.Tag==(2:Int)))then
  ((fD t e y tl) (ez has e4.Col true))
  else
  ((fD t e y tl) has)

def dy(t:am)(e:am)(y:am):Option (am×Int):=
 if(y.root.Op !=(4:Int))then
 (some (t,(0:Int)))
 else
 (fD t e y e.root.Items ([]:List (Int×Bool)))

def eI(t:am)(x:Bool):Option (am×Int):=
  (cQ t.parts (0:Int)).bind fun e=>
  if(e.root.Op==(6:Int))then
  (some (e,(1:Int)))
  else
  (if(e.root.Op !=(5:Int))then
  (some (t,(0:Int)))
  else
  ((cQ e.parts (0:Int)).bind fun e1=>
  if(e1.root.Op==(3:Int))then
  ((cQ e1.parts (0:Int)).bind fun e5=>
  dy t e e5)
  else
  (dy t e e1)))

def tu(rec__:Option (List (Int×(am->Bool->Option (am×Int))))):Option (List (Int×(am->Bool->Option (am×Int)))):=
 some (ez (ez (ez ([]:List (Int×(am->Bool->Option (am×Int)))) (3:Int) (dF rec__)) (5:Int) eE) (6:Int) eI)

def bG:Nat->Option (List (Int×(am->Bool->Option (am×Int))))
 |0=>none
 |fu+1=>tu (bG fu)

def o9:Option (List (Int×(am->Bool->Option (am×Int)))):=bG fQ

def vi(x0:am)(x1:Bool):Option (am×Int):=cN o9 x0 x1

def mh(x0:am):Option (am×Bool):=jV o9 x0

def ge(self__:am->Option (am×Bool))(t:am):List am->(List am)->am->Option (am×Bool)
  |[],parts,x=>
    (dV t.root parts).bind fun r=>
    if(!r.2)then
    (some (t,false))
    else
    ((mh r.1).bind fun r1=>
    some (r1.1,r1.2))
  |e::tl,parts,x=>
    (self__ e).bind fun r2=>
    if(!r2.2)then
    (some (t,false))
    else
    ((jp parts ([r2.1])).bind fun parts1=>
    (ge self__ t tl) parts1 x)

def dW:Nat->am->Option (am×Bool)
 |0,_=>none
 |fu+1,t=>
  if((t.parts.length:Int)==(0:Int))then
  (some (t,true))
  else
  (ge (dW fu) t t.parts ([]:List am) (⟨(⟨[]⟩:aw),(⟨(0:Int),(0:Int),(0:Int),(0:Int),[],false,(⟨[]⟩:ai),[],[],[],[],(0:Int)⟩:aa),[]⟩:am))

def nQ(t:am):Option (am×Bool):=
 dW fQ t

def lg(l:aw)(place:Int)(e:Int):Nat->Int->aw->Option (aw×Int)
  |0,_,_=>none
  |n+1,i,out=>
    if(decide (i<=place))then
    ((cQ l.Nodes i).bind fun e1=>
    (mp e1 (IntKind.i64.wrap (0-e))).bind fun r1=>
    (jp out.Nodes ([r1])).bind fun l2=>
    (lg l place e n) (IntKind.i64.wrap (i+(1:Int))) ({out with Nodes:=l2}:aw))
    else
    (some (out,(0:Int)))

def lU(l:aw)(place:Int):Option (aw×Int):=
  (lT l).bind fun r=>
  if(!r.2.2)then
  (some ((⟨[]⟩:aw),(230:Int)))
  else
  (if((decide (place<(0:Int)))||(decide ((l.Nodes.length:Int)<=place)))then
  (some ((⟨[]⟩:aw),(2:Int)))
  else
  ((cQ r.1.first place).bind fun e=>
  lg l place e fQ e ({(⟨[]⟩:aw)with Nodes:=([]:List aa)}:aw)))

def dj(self__:aw->Option am)(l:aw)(e:aa):Nat->Nat->am->Option am
  |0,i,t=>
    some t
  |k1+1,i,t=>
    (cQ ([((⟨l,e,[]⟩:am).root).A,((⟨l,e,[]⟩:am).root).B]) (i:Int)).bind fun e2=>
    if(decide ((0:Int)<=e2))then
    ((lU l e2).bind fun r=>
    (self__ r.1).bind fun r1=>
    (jp t.parts ([r1])).bind fun l2=>
    (dj self__ l e k1) (i+1) ({t with parts:=l2}:am))
    else
    ((dj self__ l e k1) (i+1) t)

def gJ:Nat->aw->Option am
 |0,_=>none
 |fu+1,l=>
  (cQ l.Nodes (IntKind.i64.wrap ((l.Nodes.length:Int)-(1:Int)))).bind fun e=>
  dj (gJ fu) l e 2 0 ({(⟨l,e,[]⟩:am)with parts:=([]:List am)}:am)

def pc(l:aw):Option am:=
 gJ fQ l

def gK(l:aw):Option (aw×Int):=
  (iS l).bind fun r=>
  if(r.2 !=(0:Int))then
  (some ((⟨[]⟩:aw),r.2))
  else
  ((pc l).bind fun r1=>
  (nQ r1).bind fun r2=>
  if(!r2.2)then
  (some (l,(0:Int)))
  else
  (some (r2.1.Logic,(0:Int))))

def yC(l:aw):Option (aw×Bool×Int):=
  (iS l).bind fun r=>
  if(r.2 !=(0:Int))then
  (some ((⟨[]⟩:aw),false,r.2))
  else
  ((pc l).bind fun r1=>
  (vi r1 false).bind fun r2=>
  if(r2.2 !=(1:Int))then
  (some (l,false,(0:Int)))
  else
  (some (r2.1.Logic,true,(0:Int))))

def rO(nx1:ai->Option ai)(out1:ai)(n1:aj):Option ai:=
 (jp out1.Nodes ([n1])).bind fun l5=>
 nx1 ({out1 with Nodes:=l5}:ai)

def rP(out:ai)(nx1:ai->Option ai)(out1:ai)(n:aj):Option ai:=
 if(decide ((0:Int)<=n.R))then
 (rO nx1 out1 (aj.mk n.Tag n.L (IntKind.i64.wrap (n.R+(out.Nodes.length:Int))) n.Col n.Value))
 else
 (rO nx1 out1 n)

def k5(nx:Nat->aj->ai->Option ai)(i:Nat)(gI:aj)(out:ai):List aj->ai->Option ai
 |[],out1=>
  if((i:Int)==(0:Int))then
  (nx (i+1) (aj.mk gI.Tag (IntKind.i64.wrap ((out1.Nodes.length:Int)-(1:Int))) gI.R gI.Col gI.Value) out1)
  else
  (nx (i+1) (aj.mk gI.Tag gI.L (IntKind.i64.wrap ((out1.Nodes.length:Int)-(1:Int))) gI.Col gI.Value) out1)
 |e1::tl1,out1=>
  if(decide ((0:Int)<=e1.L))then
  (rP out (k5 nx i gI out tl1) out1 (aj.mk e1.Tag (IntKind.i64.wrap (e1.L+(out.Nodes.length:Int))) e1.R e1.Col e1.Value))
  else
  (rP out (k5 nx i gI out tl1) out1 e1)

def k6:List ai->Nat->aj->ai->Option ai
 |[],i,gI,out=>
  (jp out.Nodes ([gI])).bind fun l2=>
  some ({out with Nodes:=l2}:ai)
 |e::tl,i,gI,out=>
  k5 (k6 tl) i gI out e.Nodes out

def lR(root:aj)(l:(List ai)):Option ai:=
 k6 l 0 (aj.mk root.Tag (-1:Int) (-1:Int) root.Col root.Value) ({(⟨[]⟩:ai)with Nodes:=([]:List aj)}:ai)

def BR(n:Int):Option bK:=
 some (⟨(2:Int),n,(0:Int),[]⟩:bK)

def rh(col:Int)(n:Int):Option ai:=
 (lR (⟨(2:Int),(0:Int),(0:Int),col,(⟨(0:Int),(0:Int),(0:Int),[]⟩:bK)⟩:aj) ([])).bind fun r=>
 (BR n).bind fun r1=>
 (lR (⟨(1:Int),(0:Int),(0:Int),(0:Int),r1⟩:aj) ([])).bind fun r2=>
 (lR (⟨(16:Int),(0:Int),(0:Int),(0:Int),(⟨(0:Int),(0:Int),(0:Int),[]⟩:bK)⟩:aj) ([r,r2])).bind fun r3=>
 some r3

def ut:Option aw:=
 (rh (0:Int) (1:Int)).bind fun r=>
 (rh (1:Int) (2:Int)).bind fun r1=>
 (lR (⟨(22:Int),(0:Int),(0:Int),(0:Int),(⟨(0:Int),(0:Int),(0:Int),[]⟩:bK)⟩:aj) ([r,r1])).bind fun r2=>
 (lR (⟨(2:Int),(0:Int),(0:Int),(0:Int),(⟨(0:Int),(0:Int),(0:Int),[]⟩:bK)⟩:aj) ([])).bind fun r3=>
 (lR (⟨(2:Int),(0:Int),(0:Int),(1:Int),(⟨(0:Int),(0:Int),(0:Int),[]⟩:bK)⟩:aj) ([])).bind fun r4=>
 (lR (⟨(16:Int),(0:Int),(0:Int),(0:Int),(⟨(0:Int),(0:Int),(0:Int),[]⟩:bK)⟩:aj) ([r3,r4])).bind fun r5=>
 some (⟨[(⟨(1:Int),(-1:Int),(-1:Int),(0:Int),[(2:Int)],false,(⟨[]⟩:ai),[],[],[],[],(0:Int)⟩:aa),(⟨(1:Int),(-1:Int),(-1:Int),(1:Int),[(2:Int)],false,(⟨[]⟩:ai),[],[],[],[],(0:Int)⟩:aa),(⟨(2:Int),(0:Int),(1:Int),(0:Int),[],false,r5,[],[],[],[],(0:Int)⟩:aa),(⟨(3:Int),(2:Int),(-1:Int),(0:Int),[],false,r2,[],[],[],[],(0:Int)⟩:aa)]⟩:aw)

def rN(b:ai):List aj->Nat->Option Bool
 |[],i=>
  some true
 |e::tl,i=>
  (cQ b.Nodes (i:Int)).bind fun e1=>
  if(!decide (e=e1))then
  (some false)
  else
  ((rN b tl) (i+1))

def Af(a1:ai)(b:ai):Option Bool:=
 if((a1.Nodes.length:Int) !=(b.Nodes.length:Int))then
 (some false)
 else
 (rN b a1.Nodes 0)

def ur:Option Bool:=
  (ut).bind fun r=>
  (gK r).bind fun r1=>
  (ut).bind fun r2=>
  (yC r2).bind fun r3=>
  (if((((r1.2==(0:Int))&&(r3.2.2==(0:Int)))&&r3.2.1)&&((r1.1.Nodes.length:Int)==(5:Int)))then((cQ r1.1.Nodes (1:Int)).bind fun e=>
  some (e.Op==(3:Int)))else some false).bind fun t=>
  (if t then((cQ r1.1.Nodes (3:Int)).bind fun e1=>
  some (e1.Op==(3:Int)))else some false).bind fun t1=>
  (if t1 then((cQ r1.1.Nodes (4:Int)).bind fun e2=>
  some (e2.Op==(2:Int)))else some false).bind fun t2=>
  (if t2 then((cQ r1.1.Nodes (3:Int)).bind fun e3=>
  (rh (0:Int) (2:Int)).bind fun r4=>
  (Af e3.Cond r4).bind fun r5=>
  some r5)else some false).bind fun t3=>
  some t3

def mG(l:(List aj))(most:Int):Option (List aj):=
 (db l 0 (min (l.length:Int) most)).bind fun y=>
 (jp ([]:List aj) y).bind fun x=>
 some x

def j4:List aj->Nat->ai->Option ai
 |[],i,out=>
  some out
 |e1::tl,i,out=>
  (cQ out.Nodes (i:Int)).bind fun e2=>
  (db e2.Value.S 0 (min (e2.Value.S.length:Int) (41:Int))).bind fun y=>
  (some (out.Nodes.set (i:Int).toNat ({e2 with Value:=({e2.Value with S:=y}:bK)}:aj))).bind fun st=>
  (j4 tl) (i+1) ({out with Nodes:=st}:ai)

def nv(e:ai):Option ai:=
 (mG e.Nodes (60:Int)).bind fun r=>
 j4 r 0 ({(⟨r⟩:ai)with Nodes:=r}:ai)

def yF(tag:Int):Option Int:=
  if((decide (tag<(1:Int)))||(decide ((23:Int)<tag)))then
  (some (-1:Int))
  else
  (if(decide (tag<=(3:Int)))then
  (some (0:Int))
  else
  (if(decide (tag<=(11:Int)))then
  (some (1:Int))
  else
  (some (2:Int))))

def uj(tag:Int):Option Int:=
  if((tag==(3:Int))||((decide ((8:Int)<=tag))&&(decide (tag<=(11:Int)))))then
  (some (-1:Int))
  else
  ((yF tag).bind fun r=>
  some r)

def nr(v:bK):Option Bool:=
  if(v.Kind==(0:Int))then
  (some (decide (v=(⟨(0:Int),(0:Int),(0:Int),[]⟩:bK))))
  else
  (if(v.Kind==(1:Int))then
  (some (((v.U==(0:Int))&&(v.S==([])))&&((v.N==(0:Int))||(v.N==(1:Int)))))
  else
  (if(v.Kind==(2:Int))then
  (some ((v.U==(0:Int))&&(v.S==([]))))
  else
  (if(v.Kind==(3:Int))then
  (some (((v.N==(0:Int))&&(v.U==(0:Int)))&&(decide ((v.S.length:Int)<=(40:Int)))))
  else
  (some ((v.Kind==(4:Int))&&(v.S==([])))))))

def uk(v:bK):Option Bool:=
 (nr v).bind fun r=>
 some (r&&(v.Kind !=(4:Int)))

def jv(n:aj):Option Bool:=
  if(n.Tag==(1:Int))then
  ((uk n.Value).bind fun r=>
  some (r&&(n.Col==(0:Int))))
  else
  (if(n.Tag==(2:Int))then
  (some (((decide (n.Value=(⟨(0:Int),(0:Int),(0:Int),[]⟩:bK)))&&(decide ((0:Int)<=n.Col)))&&(decide (n.Col<(16:Int)))))
  else
  (some ((decide (n.Value=(⟨(0:Int),(0:Int),(0:Int),[]⟩:bK)))&&(n.Col==(0:Int)))))

def ib:Nat->ai->Int->Option Int
  |0,_,_=>none
  |fu+1,e,place=>
    if((decide (place<(0:Int)))||(decide ((e.Nodes.length:Int)<=place)))then
    (some (0:Int))
    else
    ((cQ e.Nodes place).bind fun e1=>
    (uj e1.Tag).bind fun r=>
    (if(!(decide (r<(0:Int))))then((jv e1).bind fun r1=>
    some (!r1))else some true).bind fun t=>
    if t then
    (some (0:Int))
    else
    (if(r==(0:Int))then
    (if((e1.L !=(-1:Int))||(e1.R !=(-1:Int)))then
    (some (0:Int))
    else
    (some (1:Int)))
    else
    (((ib fu) e (IntKind.i64.wrap (place-(1:Int)))).bind fun r2=>
    if(r2==(0:Int))then
    (some (0:Int))
    else
    (if(r==(1:Int))then
    (if((e1.L !=(IntKind.i64.wrap (place-(1:Int))))||(e1.R !=(-1:Int)))then
    (some (0:Int))
    else
    (some (IntKind.i64.wrap (r2+(1:Int)))))
    else
    (((ib fu) e (IntKind.i64.wrap ((IntKind.i64.wrap (place-(1:Int)))-r2))).bind fun r3=>
    if(((r3==(0:Int))||(e1.R !=(IntKind.i64.wrap (place-(1:Int)))))||(e1.L !=(IntKind.i64.wrap ((IntKind.i64.wrap (place-(1:Int)))-r2))))then
    (some (0:Int))
    else
    (some (IntKind.i64.wrap ((IntKind.i64.wrap (r3+r2))+(1:Int)))))))))

def Ae(e:ai)(place:Int):Option Int:=
 ib fQ e place

def ui(e:ai):Option Bool:=
  (if((decide ((1:Int)<=(e.Nodes.length:Int)))&&(decide ((e.Nodes.length:Int)<=(1000:Int))))then((Ae e (IntKind.i64.wrap ((e.Nodes.length:Int)-(1:Int)))).bind fun r=>
  some (r==(e.Nodes.length:Int)))else some false).bind fun t=>
  some t

def rQ(nx:Nat->(List Int)->Option (List Int))(i:Nat)(out1:List Int):Option (List Int):=
 nx (i+1) out1

def pg(nx:Nat->(List Int)->Option (List Int))(i:Nat):List aj->(List Int)->Option (List Int)
  |[],out2=>
    rQ nx i out2
  |e2::tl,out2=>
    if((e2.Tag==(2:Int))&&(e2.Col==(i:Int)))then
    ((jp out2 ([(i:Int)])).bind fun out3=>
    rQ nx i out3)
    else
    ((pg nx i tl) out2)

def mN(e:ai):Nat->Nat->(List Int)->Option (List Int)
 |0,i,out=>
  some out
 |k1+1,i,out=>
  pg (mN e k1) i e.Nodes out

def lS(e:ai):Option (List Int):=
 mN e 16 0 ([]:List Int)

def Ah(e:ai):Option ai:=
 (jp ([]:List aj) e.Nodes).bind fun l1=>
 some (⟨l1⟩:ai)

def jZ(by1:Int):List aj->Nat->ai->Option (ai×Int)
  |[],i2,out=>
    some (out,(0:Int))
  |e2::tl1,i2,out=>
    (cQ out.Nodes (i2:Int)).bind fun e3=>
    (cQ out.Nodes (i2:Int)).bind fun e4=>
    if(e4.Tag==(2:Int))then
    ((some (out.Nodes.set (i2:Int).toNat ({e4 with Col:=(IntKind.i64.wrap (e4.Col+by1))}:aj))).bind fun st=>
    (jZ by1 tl1) (i2+1) ({out with Nodes:=st}:ai))
    else
    ((jZ by1 tl1) (i2+1) out)

def lQ(e:ai)(by1:Int):List Int->ai->Option (ai×Int)
 |[],x=>
  (Ah e).bind fun r1=>
  jZ by1 r1.Nodes 0 r1
 |e1::tl,x=>
  if((((decide (by1<(-16:Int)))||(decide ((16:Int)<by1)))||(decide ((IntKind.i64.wrap (e1+by1))<(0:Int))))||(decide ((16:Int)<=(IntKind.i64.wrap (e1+by1)))))then
  (some ((⟨[]⟩:ai),(2:Int)))
  else
  ((lQ e by1 tl) x)

def yE(e:ai)(by1:Int):Option (ai×Int):=
 (lS e).bind fun r=>
 lQ e by1 r (⟨[]⟩:ai)

def mF(l:(List aa))(most:Int):Option (List aa):=
 (db l 0 (min (l.length:Int) most)).bind fun y=>
 (jp ([]:List aa) y).bind fun x=>
 some x

def mU(l:(List Int))(most:Int):Option (List Int):=
 (db l 0 (min (l.length:Int) most)).bind fun y=>
 (jp ([]:List Int) y).bind fun x=>
 some x

def n7(l:(List ik))(most:Int):Option (List ik):=
 (db l 0 (min (l.length:Int) most)).bind fun y=>
 (jp ([]:List ik) y).bind fun x=>
 some x

def ne(l:(List ai))(most:Int):Option (List ai):=
 (db l 0 (min (l.length:Int) most)).bind fun y=>
 (jp ([]:List ai) y).bind fun x=>
 some x

def lF(l:(List ly))(most:Int):Option (List ly):=
 (db l 0 (min (l.length:Int) most)).bind fun y=>
 (jp ([]:List ly) y).bind fun x=>
 some x

def mu(nx:Nat->aw->Option aw)(i:Nat)(out:aw):List ai->Nat->aa->Option aw
 |[],i2,n1=>
  (nv n1.Cond).bind fun r6=>
  (some (out.Nodes.set (i:Int).toNat ({({({n1 with Cond:=r6}:aa)with Aggs:=n1.Aggs}:aa)with Items:=n1.Items}:aa))).bind fun st=>
  nx (i+1) ({out with Nodes:=st}:aw)
 |e4::tl2,i2,n1=>
  (cQ n1.Items (i2:Int)).bind fun e5=>
  (cQ n1.Items (i2:Int)).bind fun e6=>
  (nv e6).bind fun r7=>
  (some (n1.Items.set (i2:Int).toNat r7)).bind fun st1=>
  (mu nx i out tl2) (i2+1) ({n1 with Items:=st1}:aa)

def mw(nx:Nat->aw->Option aw)(i:Nat)(out:aw):List ik->Nat->aa->Option aw
 |[],i1,n=>
  mu nx i out n.Items 0 n
 |e3::tl1,i1,n=>
  (cQ n.Aggs (i1:Int)).bind fun e7=>
  (cQ n.Aggs (i1:Int)).bind fun e8=>
  (nv e8.Arg).bind fun r8=>
  (some (n.Aggs.set (i1:Int).toNat ({e8 with Arg:=r8}:ik))).bind fun st2=>
  (mw nx i out tl1) (i1+1) ({n with Aggs:=st2}:aa)

def jy:List aa->Nat->aw->Option aw
 |[],i,out=>
  some out
 |e::tl,i,out=>
  (cQ out.Nodes (i:Int)).bind fun e1=>
  (cQ out.Nodes (i:Int)).bind fun e2=>
  (mU e2.Kinds (6:Int)).bind fun r1=>
  (mU e2.Keys (6:Int)).bind fun r2=>
  (n7 e2.Aggs (14:Int)).bind fun r3=>
  (ne e2.Items (17:Int)).bind fun r4=>
  (lF e2.Order (5:Int)).bind fun r5=>
  mw (jy tl) i out r3 0 ({({({(aa.mk e2.Op e2.A e2.B e2.Table r1 e2.Left e2.Cond r2 e2.Aggs e2.Items e2.Order e2.Limit)with Order:=r5}:aa)with Aggs:=r3}:aa)with Items:=r4}:aa)

def uR(l:aw):Option aw:=
 (mF l.Nodes (61:Int)).bind fun r=>
 jy r 0 ({(⟨r⟩:aw)with Nodes:=r}:aw)

def fZ(s2:(List Int)):List Int->Nat->Option Bool
 |[],i=>
  some true
 |e::tl,i=>
  (cQ s2 (i:Int)).bind fun e1=>
  if(e !=e1)then
  (some false)
  else
  ((fZ s2 tl) (i+1))

def ir(s1:(List Int))(s2:(List Int)):Option Bool:=
 if((s1.length:Int) !=(s2.length:Int))then
 (some false)
 else
 (fZ s2 s1 0)

def fy(e:ai):Option Bool:=
  (if(decide ((0:Int)<(e.Nodes.length:Int)))then((j9 e).bind fun r=>
  some (!r))else some false).bind fun t=>
  some t

def mq(unsafe1:(ai->Option Bool))(a1:ik):Option Bool:=
  (if(!(a1.Tag==(3:Int)))then((unsafe1 a1.Arg).bind fun r=>
  some r)else some true).bind fun t=>
  some t

def di(f:(ik->Option Bool)):List ik->Nat->Option Int
 |[],i=>
  some (-1:Int)
 |e::tl,i=>
  (f e).bind fun r=>
  if r then
  (some (i:Int))
  else
  ((di f tl) (i+1))

def gv(s:(List ik))(f:(ik->Option Bool)):Option Int:=
 di f s 0

def d9(s:(List ik))(f:(ik->Option Bool)):Option Bool:=
 (gv s f).bind fun r=>
 some (decide ((0:Int)<=r))

def mT:List aa->Option Bool
  |[]=>
    some true
  |e::tl=>
    (fy e.Cond).bind fun r1=>
    (if(!r1)then((bM e.Items fy).bind fun r2=>
    some r2)else some true).bind fun t=>
    (if(!t)then((d9 e.Aggs (mq fy)).bind fun r3=>
    some r3)else some true).bind fun t1=>
    if t1 then
    (some false)
    else
    ((mT tl))

def oV(l:aw):Option Bool:=
 (iS l).bind fun r=>
 if(r.2 !=(0:Int))then
 (some false)
 else
 (mT l.Nodes)

def iJ:List aa->(List Int)->Option (List Int)
  |[],out=>
    (xA out).bind fun srt=>
    (gw srt).bind fun r1=>
    some r1
  |e::tl,out=>
    if(e.Op==(1:Int))then
    ((jp out ([e.Table])).bind fun out1=>
    (iJ tl) out1)
    else
    ((iJ tl) out)

def kE(l:aw):Option (List Int):=
 (iS l).bind fun r=>
 if(r.2 !=(0:Int))then
 (some ([]:List Int))
 else
 (iJ l.Nodes ([]:List Int))

def nf(p:aw):Option Bool:=
  (ur).bind fun r=>
  if(!r)then
  (some false)
  else
  ((uR p).bind fun r1=>
  (iv r1).bind fun r2=>
  (gK r1).bind fun r3=>
  if(r2.2 !=(0:Int))then
  (some ((r3.2==(230:Int))&&((r3.1.Nodes.length:Int)==(0:Int))))
  else
  ((iv r3.1).bind fun r4=>
  (if(!((r3.2 !=(0:Int))||(r4.2 !=(0:Int))))then((ir r4.1 r2.1).bind fun r5=>
  some (!r5))else some true).bind fun t=>
  (if(!t)then((oV r1).bind fun r6=>
  (if r6 then((oV r3.1).bind fun r7=>
  some (!r7))else some false).bind fun t2=>
  some t2)else some true).bind fun t1=>
  if t1 then
  (some false)
  else
  ((kE r1).bind fun r8=>
  (kE r3.1).bind fun r9=>
  (ir r8 r9).bind fun r10=>
  some r10)))


end Go.Proofs.YtbmmihfagmchaaaGreat

