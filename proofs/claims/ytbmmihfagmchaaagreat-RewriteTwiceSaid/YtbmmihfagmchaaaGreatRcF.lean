/- cW of this claim: F. -/
import Derived.Test.YtbmmihfagmchaaaGreatRcD
import Derived.Test.YtbmmihfagmchaaaGreatRcV4
set_option linter.all false
namespace Go.Proofs.YtbmmihfagmchaaaGreat
open Go

def yL(k:Int):Option Bool:=
 some (((k==(1:Int))||(k==(2:Int)))||(k==(3:Int)))

def jH(k:Int):Option Bool:=
 (yL k).bind fun r=>
 some (!r)

def fg(f:(Int->Option Bool)):List Int->Nat->Option Int
 |[],i=>
  some (-1:Int)
 |e::tl,i=>
  (f e).bind fun r=>
  if r then
  (some (i:Int))
  else
  ((fg f tl) (i+1))

def jQ(s:(List Int))(f:(Int->Option Bool)):Option Int:=
 fg f s 0

def dX(s:(List Int))(f:(Int->Option Bool)):Option Bool:=
 (jQ s f).bind fun r=>
 some (decide ((0:Int)<=r))

def gn(c:au)(n:aa):Option ((List Int)×Bool):=
  (if((((decide ((0:Int)<=n.Table))&&(decide (n.Table<(4:Int))))&&(decide ((1:Int)<=(n.Kinds.length:Int))))&&(decide ((n.Kinds.length:Int)<=(4:Int))))then((dX n.Kinds jH).bind fun r=>
  some (!r))else some false).bind fun t=>
  some (n.Kinds,t)

def kL(s:List Int):Option (List Int):=
 some s

def kM(n:Int):Option (List Int):=
  if(decide ((0:Int)<(IntKind.i64.wrap (n-(IntKind.i64.wrap ((0:Int)-(0:Int)))))))then
  ((RN (IntKind.i64.wrap (n-(IntKind.i64.wrap ((0:Int)-(0:Int)))))).bind fun _=>
  (zA (IntKind.i64.wrap (n-(IntKind.i64.wrap ((0:Int)-(0:Int))))) (0:Int)).bind fun mk=>
  (dk mk 0 (0:Int)).bind fun y=>
  kL y)
  else
  (kL ([]:List Int))

def j3(n:Int):Option (List Int):=
 if(decide (n<(0:Int)))then
 (none)
 else
 (kM n)

def im:List (List Int)->(List Int)->Option (List Int)
 |[],newslice=>
  some newslice
 |e1::tl1,newslice=>
  (jT newslice e1).bind fun newslice1=>
  (im tl1) newslice1

def io(slices:(List (List Int))):List (List Int)->Int->Option (List Int)
 |[],size=>
  (j3 size).bind fun r=>
  im slices r
 |e::tl,size=>
  if(decide ((IntKind.i64.wrap (size+(e.length:Int)))<(0:Int)))then
  (none)
  else
  ((io slices tl) (IntKind.i64.wrap (size+(e.length:Int))))

def hM(slices:(List (List Int))):Option (List Int):=
 io slices slices (0:Int)

def nt(tag:Int):Option Int:=
  if((tag==(1:Int))||(tag==(2:Int)))then
  (some (0:Int))
  else
  (if((decide ((4:Int)<=tag))&&(decide (tag<=(7:Int))))then
  (some (1:Int))
  else
  (if((decide ((12:Int)<=tag))&&(decide (tag<=(23:Int))))then
  (some (2:Int))
  else
  (some (-1:Int))))

def jg(v1:bN):Option bN:=
 some v1

def nT(v2:bN):Option bN:=
 jg (bN.mk (0:Int) v2.N v2.U v2.S)

def nS(v:bN):Option bN:=
 nT (bN.mk v.Kind (0:Int) v.U v.S)

def nR(v3:bN):Option bN:=
 jg v3

def uh(v:bN):Option bN:=
  if(v.Kind==(1:Int))then
  (if((v.N !=(0:Int))&&(v.N !=(1:Int)))then
  (jg v)
  else
  (nS v))
  else
  (if(v.Kind==(2:Int))then
  (nS v)
  else
  (if(v.Kind==(0:Int))then
  (nT v)
  else
  (if(v.Kind==(3:Int))then
  (if(decide ((v.S.length:Int)<=(40:Int)))then
  (nR (bN.mk (0:Int) v.N v.U ([])))
  else
  (nR v))
  else
  (if(v.Kind==(4:Int))then
  (jg (bN.mk (0:Int) (0:Int) (0:Int) v.S))
  else
  (jg v)))))

def rk(v:bN):Option Int:=
 (uh v).bind fun r=>
 if(!decide (r=(⟨(0:Int),(0:Int),(0:Int),[]⟩:bN)))then
 (some (120:Int))
 else
 (some (0:Int))

def rj(v:bN):Option Bool:=
 (rk v).bind fun r=>
 some ((r==(0:Int))&&(v.Kind !=(4:Int)))

def rJ(n:aj):Option Bool:=
  if(n.Tag==(1:Int))then
  ((rj n.Value).bind fun r=>
  some (r&&(n.Col==(0:Int))))
  else
  (if(n.Tag==(2:Int))then
  (some (((decide (n.Value=(⟨(0:Int),(0:Int),(0:Int),[]⟩:bN)))&&(decide ((0:Int)<=n.Col)))&&(decide (n.Col<(16:Int)))))
  else
  (some ((decide (n.Value=(⟨(0:Int),(0:Int),(0:Int),[]⟩:bN)))&&(n.Col==(0:Int)))))

def ko(nx:Nat->(List Int)->(List Int)->Option ((List Int)×Bool))(i:Nat)(e1:aj)(all:List Int)(open1:List Int)(r:Int):List Int->Nat->Int->(List Int)->Option ((List Int)×Bool)
  |[],i1,first,at1=>
    if(!decide (at1=([e1.L,e1.R])))then
    (some ([],false))
    else
    ((jT all ([first])).bind fun all1=>
    (dk open1 0 (IntKind.i64.wrap ((open1.length:Int)-r))).bind fun y1=>
    (jT y1 ([(i:Int)])).bind fun open2=>
    nx (i+1) all1 open2)
  |e2::tl1,i1,first,at1=>
    (cU all e2).bind fun e3=>
    (cU at1 (i1:Int)).bind fun e4=>
    (some (at1.set (i1:Int).toNat e2)).bind fun ar=>
    (ko nx i e1 all open1 r tl1) (i1+1) (min first e3) ar

def jm:List aj->Nat->(List Int)->(List Int)->Option ((List Int)×Bool)
  |[],i,all,open1=>
    some (all,(((open1.length:Int)==(1:Int))&&(decide ((all.length:Int)<=(1000:Int)))))
  |e1::tl,i,all,open1=>
    (nt e1.Tag).bind fun r=>
    (if(!((decide (r<(0:Int)))||(decide ((open1.length:Int)<r))))then((rJ e1).bind fun r1=>
    some (!r1))else some true).bind fun t=>
    if t then
    (some ([],false))
    else
    ((dk open1 (IntKind.i64.wrap ((open1.length:Int)-r)) (open1.length:Int)).bind fun y=>
    ko (jm tl) i e1 all open1 r y 0 (i:Int) ([(-1:Int),(-1:Int)]))

def pO(e:ai):Option ((List Int)×Bool):=
 jm e.Nodes 0 ([]:List Int) ([]:List Int)

def me(e:ai):Option Int:=
 (pO e).bind fun r=>
 if(!r.2)then
 (some (200:Int))
 else
 (some (0:Int))

def dJ(i:Nat)(y:List Int):Nat->Nat->(List Int)->Int->Option (List Int)
  |0,i1,s1,k=>
    (dk s1 k (s1.length:Int)).bind fun y1=>
    (some (s1.take k.toNat++List.replicate y1.length (0:Int))).bind fun cl=>
    (dk cl 0 k).bind fun y2=>
    some y2
  |k2+1,i1,s1,k=>
    (BB s1 (i:Int) y.length (i1:Int)).bind fun e3=>
    (BB s1 (i:Int) y.length (IntKind.i64.wrap ((i1:Int)-(1:Int)))).bind fun e4=>
    if(e3 !=e4)then
    ((BB s1 (i:Int) y.length (i1:Int)).bind fun e5=>
    (cU s1 k).bind fun e6=>
    (some (s1.set k.toNat e5)).bind fun st=>
    (dJ i y k2) (i1+1) st (IntKind.i64.wrap (k+(1:Int))))
    else
    ((dJ i y k2) (i1+1) s1 k)

def eD(s:(List Int)):List Int->Nat->Option (List Int)
  |[],i=>
    some s
  |e::tl,i=>
    (cU s (IntKind.i64.wrap ((i:Int)-(1:Int)))).bind fun e1=>
    if(e==e1)then
    ((dk s (i:Int) (s.length:Int)).bind fun y=>
    dJ i y (y.length-1) 1 s (i:Int))
    else
    ((eD s tl) (i+1))

def iW(s:(List Int)):Option (List Int):=
 if(decide ((s.length:Int)<(2:Int)))then
 (some s)
 else
 (eD s (s.drop (1)) 1)

def iw:List aj->(List Int)->Option (List Int)
  |[],out=>
    (zS out).bind fun srt=>
    (iW srt).bind fun r1=>
    some r1
  |e1::tl,out=>
    if(e1.Tag==(2:Int))then
    ((jT out ([e1.Col])).bind fun out1=>
    (iw tl) out1)
    else
    ((iw tl) out)

def kq(e:ai):Option (List Int):=
 (me e).bind fun r=>
 if(r !=(0:Int))then
 (some ([]:List Int))
 else
 (iw e.Nodes ([]:List Int))

def cu(s:(List Int)):Option (List Int):=
 (jT ([]:List Int) s).bind fun x=>
 some x

def ne(stack:(List Int))(k:Int):Option ((List Int)×(List Int)):=
 (dk stack (IntKind.i64.wrap ((stack.length:Int)-k)) (stack.length:Int)).bind fun y=>
 (cu y).bind fun r=>
 (dk stack 0 (IntKind.i64.wrap ((stack.length:Int)-k))).bind fun y1=>
 some (r,y1)

def km(bad:Int)(stack:List Int):Option (Int×Int):=
  if(bad !=(0:Int))then
  (some ((0:Int),bad))
  else
  ((cU stack (0:Int)).bind fun e1=>
  some (e1,(0:Int)))

def gz(do1:(aj->(List Int)->Option (Int×Int))):List aj->Int->(List Int)->Option (Int×Int)
  |[],bad1,stack1=>
    km bad1 stack1
  |e2::tl,bad1,stack1=>
    (nt e2.Tag).bind fun r=>
    (ne stack1 r).bind fun r1=>
    (do1 e2 r1.1).bind fun r2=>
    if(r2.2 !=(0:Int))then
    (km r2.2 r1.2)
    else
    ((jT r1.2 ([r2.1])).bind fun l2=>
    (gz do1 tl) bad1 l2)

def m6(e:ai)(do1:(aj->(List Int)->Option (Int×Int))):Option (Int×Int):=
 gz do1 e.Nodes (0:Int) ([]:List Int)

def pZ(tag:Int):Option Bool:=
 some ((tag==(4:Int))||((decide ((12:Int)<=tag))&&(decide (tag<=(15:Int)))))

def kp(kinds:(List Int))(n:aj):List Int->Int->Option (Int×Int)
  |[],own=>
    if(n.Tag==(1:Int))then
    (some (n.Value.Kind,(0:Int)))
    else
    (if(n.Tag==(2:Int))then
    ((cU kinds n.Col).bind fun e1=>
    some (e1,(0:Int)))
    else
    ((pZ n.Tag).bind fun r=>
    if r then
    (if((own==(-1:Int))||((own !=(0:Int))&&(own !=(2:Int))))then
    (some ((0:Int),(201:Int)))
    else
    (some ((2:Int),(0:Int))))
    else
    (if(((n.Tag==(5:Int))||(n.Tag==(22:Int)))||(n.Tag==(23:Int)))then
    (if((own==(-1:Int))||((own !=(0:Int))&&(own !=(1:Int))))then
    (some ((0:Int),(201:Int)))
    else
    (some ((1:Int),(0:Int))))
    else
    (if((own==(-1:Int))||((own !=(0:Int))&&(own !=own)))then
    (some ((0:Int),(201:Int)))
    else
    (some ((1:Int),(0:Int)))))))
  |e::tl,own=>
    if((e==(0:Int))||(e==own))then
    ((kp kinds n tl) own)
    else
    (if(own==(0:Int))then
    ((kp kinds n tl) e)
    else
    ((kp kinds n tl) (-1:Int)))

def iH(kinds:(List Int))(n:aj)(l:(List Int)):Option (Int×Int):=
 kp kinds n l (0:Int)

def kW(e:ai)(kinds:(List Int)):List Int->Option (Int×Int)
 |[]=>
  (m6 e (iH kinds)).bind fun r2=>
  some (r2.1,r2.2)
 |e2::tl1=>
  if(decide ((kinds.length:Int)<=e2))then
  (some ((0:Int),(2:Int)))
  else
  ((kW e kinds tl1))

def oq(e:ai)(kinds:(List Int)):List Int->Option (Int×Int)
 |[]=>
  (kq e).bind fun r1=>
  kW e kinds r1
 |e1::tl=>
  if((decide (e1<(0:Int)))||(decide ((3:Int)<e1)))then
  (some ((0:Int),(2:Int)))
  else
  ((oq e kinds tl))

def qy(e:ai)(kinds:(List Int)):Option (Int×Int):=
 (me e).bind fun r=>
 if(r !=(0:Int))then
 (some ((0:Int),r))
 else
 (oq e kinds kinds)

def pM(e:ai)(kinds:(List Int)):Option Bool:=
 (qy e kinds).bind fun r=>
 some ((r.2==(0:Int))&&((r.1==(1:Int))||(r.1==(0:Int))))

def gp(c:au)(n:aa):Option ((List Int)×Bool):=
 (cU c.kinds n.A).bind fun e=>
 (cU c.kinds n.B).bind fun e1=>
 (hM ([e,e1])).bind fun r=>
 (pM n.Cond r).bind fun r1=>
 some (r,r1)

def fx(c:au)(n:aa):Option ((List Int)×Bool):=
 (cU c.kinds n.A).bind fun e=>
 (pM n.Cond e).bind fun r=>
 some (e,r)

def n8(kinds:(List Int))(c:Int):Option Bool:=
 some ((decide (c<(0:Int)))||(decide ((kinds.length:Int)<=c)))

def qm(l:(List Int))(kinds:(List Int)):Option Bool:=
 (dX l (n8 kinds)).bind fun r=>
 some (!r)

def qn(r:Int×Int)(x:Bool):Option (Int×Bool):=
 if x then
 (some (r.1,(r.2==(0:Int))))
 else
 (some ((0:Int),false))

def u3(a1:gQ)(kinds:(List Int)):Option (Int×Bool):=
  if(a1.Tag==(1:Int))then
  (some ((2:Int),((a1.Arg.Nodes.length:Int)==(0:Int))))
  else
  ((qy a1.Arg kinds).bind fun r=>
  if(a1.Tag==(2:Int))then
  (some ((2:Int),(r.2==(0:Int))))
  else
  (if(a1.Tag==(3:Int))then
  (some ((2:Int),((r.2==(0:Int))&&((r.1==(2:Int))||(r.1==(0:Int))))))
  else
  (if(a1.Tag==(4:Int))then
  (qn r (a1.Tag==(4:Int)))
  else
  (qn r (a1.Tag==(5:Int))))))

def eE(e:(List Int)):List gQ->(List Int)->Bool->Option ((List Int)×Bool)
 |[],out1,ok=>
  some (out1,ok)
 |e2::tl1,out1,ok=>
  (u3 e2 e).bind fun r1=>
  (jT out1 ([r1.1])).bind fun out2=>
  (eE e tl1) out2 (ok&&r1.2)

def fK(n:aa)(e:(List Int))(t:Bool):List Int->(List Int)->Option ((List Int)×Bool)
 |[],out=>
  eE e n.Aggs out t
 |e1::tl,out=>
  (cU e e1).bind fun e3=>
  (jT out ([e3])).bind fun out3=>
  (fK n e t tl) out3

def fS(c:au)(n:aa):Option ((List Int)×Bool):=
  (cU c.kinds n.A).bind fun e=>
  (if(((decide ((n.Keys.length:Int)<=(3:Int)))&&(decide ((n.Aggs.length:Int)<=(12:Int))))&&(decide ((0:Int)<(IntKind.i64.wrap ((n.Keys.length:Int)+(n.Aggs.length:Int))))))then((qm n.Keys e).bind fun r=>
  some r)else some false).bind fun t=>
  if(!t)then
  (some ([],false))
  else
  (fK n e t n.Keys ([]:List Int))

def eY(c:au)(n:aa):List ai->(List Int)->Bool->Option ((List Int)×Bool)
 |[],out,ok=>
  some (out,ok)
 |e::tl,out,ok=>
  (cU c.kinds n.A).bind fun e1=>
  (qy e e1).bind fun r=>
  (jT out ([r.1])).bind fun out1=>
  (eY c n tl) out1 (ok&&(r.2==(0:Int)))

def fe(c:au)(n:aa):Option ((List Int)×Bool):=
 eY c n n.Items ([]:List Int) ((decide ((1:Int)<=(n.Items.length:Int)))&&(decide ((n.Items.length:Int)<=(16:Int))))

def eF(c:au)(n:aa):Option ((List Int)×Bool):=
 (cU c.kinds n.A).bind fun e=>
 some (e,true)

def gK(nx:Nat->(List Int)->Bool->Option ((List Int)×Bool))(i:Nat)(e2:Int)(ok:Bool)(out1:List Int):Option ((List Int)×Bool):=
  (if ok then((cU out1 (i:Int)).bind fun e3=>
  some ((e3==e2)||(e2==(0:Int))))else some false).bind fun t=>
  nx (i+1) out1 t

def dp:List Int->Nat->(List Int)->Bool->Option ((List Int)×Bool)
  |[],i,out,ok=>
    some (out,ok)
  |e2::tl,i,out,ok=>
    (cU out (i:Int)).bind fun e4=>
    if(e4==(0:Int))then
    ((some (out.set (i:Int).toNat e2)).bind fun st=>
    gK (dp tl) i e2 ok st)
    else
    (gK (dp tl) i e2 ok out)

def fQ(c:au)(n:aa):Option ((List Int)×Bool):=
  (cU c.kinds n.A).bind fun e=>
  (cU c.kinds n.B).bind fun e1=>
  if((e.length:Int) !=(e1.length:Int))then
  (some ([],false))
  else
  ((cu e).bind fun r=>
  dp e1 0 r true)

def ju(in1:(List Int))(o:jU):Option Bool:=
 some ((decide (o.Col<(0:Int)))||(decide ((in1.length:Int)<=o.Col)))

def dt(f:(jU->Option Bool)):List jU->Nat->Option Int
 |[],i=>
  some (-1:Int)
 |e::tl,i=>
  (f e).bind fun r=>
  if r then
  (some (i:Int))
  else
  ((dt f tl) (i+1))

def gG(s:(List jU))(f:(jU->Option Bool)):Option Int:=
 dt f s 0

def eo(s:(List jU))(f:(jU->Option Bool)):Option Bool:=
 (gG s f).bind fun r=>
 some (decide ((0:Int)<=r))

def fR(c:au)(n:aa):Option ((List Int)×Bool):=
  (cU c.kinds n.A).bind fun e=>
  (if(decide ((n.Order.length:Int)<=(3:Int)))then((eo n.Order (ju e)).bind fun r=>
  some (!r))else some false).bind fun t=>
  some (e,(((t&&(decide ((-1:Int)<=n.Limit)))&&(decide (n.Limit<=(2147483647:Int))))&&((c.kinds.length:Int)==(IntKind.i64.wrap ((c.Logic.Nodes.length:Int)-(1:Int))))))

def qY(n:aa):Option Bool:=
 some (((((((((n.Table==(0:Int))&&((n.Kinds.length:Int)==(0:Int)))&&(!n.Left))&&((n.Cond.Nodes.length:Int)==(0:Int)))&&((n.Keys.length:Int)==(0:Int)))&&((n.Aggs.length:Int)==(0:Int)))&&((n.Items.length:Int)==(0:Int)))&&((n.Order.length:Int)==(0:Int)))&&(n.Limit==(0:Int)))

def q0(n:aa):Option aa:=
  if(n.Op==(1:Int))then
  (some (aa.mk n.Op n.A n.B (0:Int) ([]) n.Left n.Cond n.Keys n.Aggs n.Items n.Order n.Limit))
  else
  (if(n.Op==(2:Int))then
  (some (aa.mk n.Op n.A n.B n.Table n.Kinds false (⟨[]⟩:ai) n.Keys n.Aggs n.Items n.Order n.Limit))
  else
  (if(n.Op==(3:Int))then
  (some (aa.mk n.Op n.A n.B n.Table n.Kinds n.Left (⟨[]⟩:ai) n.Keys n.Aggs n.Items n.Order n.Limit))
  else
  (if(n.Op==(4:Int))then
  (some (aa.mk n.Op n.A n.B n.Table n.Kinds n.Left n.Cond ([]) ([]) n.Items n.Order n.Limit))
  else
  (if(n.Op==(5:Int))then
  (some (aa.mk n.Op n.A n.B n.Table n.Kinds n.Left n.Cond n.Keys n.Aggs ([]) n.Order n.Limit))
  else
  (if(n.Op==(8:Int))then
  (some (aa.mk n.Op n.A n.B n.Table n.Kinds n.Left n.Cond n.Keys n.Aggs n.Items ([]) (0:Int)))
  else
  (some n))))))

def n9(x:Bool):Option Int:=
 if x then
 (some (2:Int))
 else
 (some (1:Int))

def ry(op:Int):Option Int:=
  if(op==(1:Int))then
  (some (0:Int))
  else
  (if(op==(2:Int))then
  (n9 (op==(2:Int)))
  else
  (n9 (op==(7:Int))))

def iS(c:au)(i:Int):Option (Int×Bool):=
  (cU c.Logic.Nodes i).bind fun e=>
  (ry e.Op).bind fun r=>
  if(r==(0:Int))then
  (some (i,((e.A==(-1:Int))&&(e.B==(-1:Int)))))
  else
  (if(r==(1:Int))then
  (if(((e.A !=(IntKind.i64.wrap (i-(1:Int))))||(e.B !=(-1:Int)))||(i==(0:Int)))then
  (some ((0:Int),false))
  else
  ((cU c.first e.A).bind fun e1=>
  some (e1,true)))
  else
  ((if(!((e.B !=(IntKind.i64.wrap (i-(1:Int))))||(i==(0:Int))))then((cU c.first e.B).bind fun e2=>
  some (e.A !=(IntKind.i64.wrap (e2-(1:Int)))))else some true).bind fun t=>
  if(t||(decide (e.A<(0:Int))))then
  (some ((0:Int),false))
  else
  ((cU c.first e.A).bind fun e3=>
  some (e3,true))))

def fL{Sg:Type}(yld:(Int×Bool)->Sg->Option (Bool×Sg))(nx:Nat->Sg->au->Option (Sg×au))(i:Nat)(s1:Sg)(ok1:Bool)(kinds:(List Int))(ob2:au):Option (Sg×au):=
 (jT ob2.kinds ([kinds])).bind fun l6=>
 (yld ((i:Int),(ok1&&(decide ((kinds.length:Int)<=(16:Int))))) s1).bind fun r2=>
 if((!r2.1)||(!(ok1&&(decide ((kinds.length:Int)<=(16:Int))))))then
 (some (r2.2,({ob2 with kinds:=l6}:au)))
 else
 (nx (i+1) r2.2 ({ob2 with kinds:=l6}:au))

def dT{Sg:Type}(yld:(Int×Bool)->Sg->Option (Bool×Sg))(nx:Nat->Sg->au->Option (Sg×au))(i:Nat)(e2:aa)(s1:Sg)(ok:Bool)(ob1:au):Option (Sg×au):=
  if ok then
  ((((n7 (eM (eM (eM (eM (eM (eM (eM (eM ([]:List (Int×(au->aa->Option (((List Int)×Bool)×au)))) (1:Int) (fun(mc:au) (mx:aa)=>(gn mc mx).map fun mr=>(mr,mc))) (2:Int) (fun(mc:au) (mx:aa)=>(gp mc mx).map fun mr=>(mr,mc))) (3:Int) (fun(mc:au) (mx:aa)=>(fx mc mx).map fun mr=>(mr,mc))) (4:Int) (fun(mc:au) (mx:aa)=>(fS mc mx).map fun mr=>(mr,mc))) (5:Int) (fun(mc:au) (mx:aa)=>(fe mc mx).map fun mr=>(mr,mc))) (6:Int) (fun(mc:au) (mx:aa)=>(eF mc mx).map fun mr=>(mr,mc))) (7:Int) (fun(mc:au) (mx:aa)=>(fQ mc mx).map fun mr=>(mr,mc))) (8:Int) (fun(mc:au) (mx:aa)=>(fR mc mx).map fun mr=>(mr,mc))) e2.Op).getD (fun _ _=>none)) ob1 (e2)).bind fun r3=>
  fL yld nx i s1 r3.1.2 r3.1.1 r3.2)
  else
  (fL yld nx i s1 ok ([]) ob1)

def bm{Sg:Type}(yld:(Int×Bool)->Sg->Option (Bool×Sg)):List aa->Nat->Sg->au->Option (Sg×au)
  |[],i,s1,ob=>
    some (s1,ob)
  |e2::tl,i,s1,ob=>
    (if((n7 (eM (eM (eM (eM (eM (eM (eM (eM ([]:List (Int×(au->aa->Option (((List Int)×Bool)×au)))) (1:Int) (fun(mc:au) (mx:aa)=>(gn mc mx).map fun mr=>(mr,mc))) (2:Int) (fun(mc:au) (mx:aa)=>(gp mc mx).map fun mr=>(mr,mc))) (3:Int) (fun(mc:au) (mx:aa)=>(fx mc mx).map fun mr=>(mr,mc))) (4:Int) (fun(mc:au) (mx:aa)=>(fS mc mx).map fun mr=>(mr,mc))) (5:Int) (fun(mc:au) (mx:aa)=>(fe mc mx).map fun mr=>(mr,mc))) (6:Int) (fun(mc:au) (mx:aa)=>(eF mc mx).map fun mr=>(mr,mc))) (7:Int) (fun(mc:au) (mx:aa)=>(fQ mc mx).map fun mr=>(mr,mc))) (8:Int) (fun(mc:au) (mx:aa)=>(fR mc mx).map fun mr=>(mr,mc))) e2.Op).isSome)then((q0 e2).bind fun r=>
    (qY r).bind fun r1=>
    some r1)else some false).bind fun t=>
    if t then
    ((iS ob (i:Int)).bind fun r4=>
    (jT ob.first ([r4.1])).bind fun l7=>
    dT yld (bm yld tl) i e2 s1 r4.2 ({ob with first:=l7}:au))
    else
    (dT yld (bm yld tl) i e2 s1 t ob)

def j5{Sg:Type}(c:au)(yld:(Int×Bool)->Sg->Option (Bool×Sg))(s:Sg):Option (Sg×au):=
 bm yld c.Logic.Nodes 0 s c

def oa(c:au):Option (Jf (Int×Bool) au):=
 some (fun _=>j5 c)

def m4(x:Int×Bool)(x1:Bool)(x2:Int)(p:Bool):Option (Option Nat×(Bool×Int×Bool)):=
 if(!x.2)then
 (some (some 0,(false,x.1,true)))
 else
 (some (none,(x1,x2,p)))

def lY(l:aw):Option (au×Int×Bool):=
  if((decide ((l.Nodes.length:Int)<(1:Int)))||(decide ((60:Int)<(l.Nodes.length:Int))))then
  (some ((⟨l,[],[]⟩:au),(0:Int),false))
  else
  ((oa (⟨l,[],[]⟩:au)).bind fun it=>
  (it (Option Nat×(Bool×Int×Bool)) (xm (fun x s=>m4 x s.1 s.2.1 s.2.2)) (none,(false,(0:Int),false))).bind fun r=>
  if r.1.1.isNone then
  ((cU r.2.first (IntKind.i64.wrap ((l.Nodes.length:Int)-(1:Int)))).bind fun e=>
  some (r.2,(IntKind.i64.wrap ((l.Nodes.length:Int)-(1:Int))),(e==(0:Int))))
  else
  ((RZ r.1.2.2.2).bind fun _=>
  some (r.2,r.1.2.2.1,r.1.2.1)))

def kG(l:aw):Option (Int×Int):=
 (lY l).bind fun r=>
 if(!r.2.2)then
 (some (r.2.1,(230:Int)))
 else
 (some ((0:Int),(0:Int)))

def aX(s:(List aj)):Option (List aj):=
 (jT ([]:List aj) s).bind fun x=>
 some x

def dM(s:(List jU)):Option (List jU):=
 (jT ([]:List jU) s).bind fun x=>
 some x

def eP(s:(List gQ)):Option (List gQ):=
 (jT ([]:List gQ) s).bind fun x=>
 some x

def ce(s:(List ai)):Option (List ai):=
 (jT ([]:List ai) s).bind fun x=>
 some x

def k6:List ai->Nat->aa->Option aa
 |[],i1,n4=>
  some n4
 |e1::tl1,i1,n4=>
  (cU n4.Items (i1:Int)).bind fun e2=>
  (aX e2.Nodes).bind fun r6=>
  (some (n4.Items.set (i1:Int).toNat ({e2 with Nodes:=r6}:ai))).bind fun st=>
  (k6 tl1) (i1+1) ({n4 with Items:=st}:aa)

def k7:List gQ->Nat->aa->Option aa
 |[],i,n3=>
  k6 n3.Items 0 n3
 |e::tl,i,n3=>
  (cU n3.Aggs (i:Int)).bind fun e3=>
  (aX e3.Arg.Nodes).bind fun r7=>
  (some (n3.Aggs.set (i:Int).toNat ({e3 with Arg:=({e3.Arg with Nodes:=r7}:ai)}:gQ))).bind fun st1=>
  (k7 tl) (i+1) ({n3 with Aggs:=st1}:aa)

def lc(n2:aa):Option aa:=
 (cu n2.Kinds).bind fun r=>
 (cu n2.Keys).bind fun r1=>
 (dM n2.Order).bind fun r2=>
 (aX (((aa.mk n2.Op n2.A n2.B n2.Table r n2.Left n2.Cond r1 n2.Aggs n2.Items r2 n2.Limit).Cond).Nodes)).bind fun r3=>
 (eP (({(aa.mk n2.Op n2.A n2.B n2.Table r n2.Left n2.Cond r1 n2.Aggs n2.Items r2 n2.Limit)with Cond:=({(aa.mk n2.Op n2.A n2.B n2.Table r n2.Left n2.Cond r1 n2.Aggs n2.Items r2 n2.Limit).Cond with Nodes:=r3}:ai)}:aa).Aggs)).bind fun r4=>
 (ce (({(aa.mk n2.Op n2.A n2.B n2.Table r n2.Left n2.Cond r1 n2.Aggs n2.Items r2 n2.Limit)with Cond:=({(aa.mk n2.Op n2.A n2.B n2.Table r n2.Left n2.Cond r1 n2.Aggs n2.Items r2 n2.Limit).Cond with Nodes:=r3}:ai)}:aa).Items)).bind fun r5=>
 k7 r4 0 ({({({(aa.mk n2.Op n2.A n2.B n2.Table r n2.Left n2.Cond r1 n2.Aggs n2.Items r2 n2.Limit)with Cond:=({(aa.mk n2.Op n2.A n2.B n2.Table r n2.Left n2.Cond r1 n2.Aggs n2.Items r2 n2.Limit).Cond with Nodes:=r3}:ai)}:aa)with Aggs:=r4}:aa)with Items:=r5}:aa)

def nd(by1:Int)(n1:aa):Option aa:=
 if(decide ((0:Int)<=n1.B))then
 (lc (aa.mk n1.Op n1.A (IntKind.i64.wrap (n1.B+by1)) n1.Table n1.Kinds n1.Left n1.Cond n1.Keys n1.Aggs n1.Items n1.Order n1.Limit))
 else
 (lc n1)

def mA(n:aa)(by1:Int):Option aa:=
 if(decide ((0:Int)<=n.A))then
 (nd by1 (aa.mk n.Op (IntKind.i64.wrap (n.A+by1)) n.B n.Table n.Kinds n.Left n.Cond n.Keys n.Aggs n.Items n.Order n.Limit))
 else
 (nd by1 n)

def ll(nx:Nat->aa->aw->aw->Option (aw×Int))(i:Nat)(n1:aa)(x:aw)(out:aw):List aa->aw->Option (aw×Int)
 |[],out1=>
  if((i:Int)==(0:Int))then
  (nx (i+1) (aa.mk n1.Op (IntKind.i64.wrap ((out1.Nodes.length:Int)-(1:Int))) n1.B n1.Table n1.Kinds n1.Left n1.Cond n1.Keys n1.Aggs n1.Items n1.Order n1.Limit) x out1)
  else
  (nx (i+1) (aa.mk n1.Op n1.A (IntKind.i64.wrap ((out1.Nodes.length:Int)-(1:Int))) n1.Table n1.Kinds n1.Left n1.Cond n1.Keys n1.Aggs n1.Items n1.Order n1.Limit) x out1)
 |e1::tl1,out1=>
  (mA e1 (out.Nodes.length:Int)).bind fun r3=>
  (jT out1.Nodes ([r3])).bind fun l5=>
  (ll nx i n1 x out tl1) ({out1 with Nodes:=l5}:aw)

def gD:List aw->Nat->aa->aw->aw->Option (aw×Int)
 |[],i,n1,x,out=>
  (mA n1 (0:Int)).bind fun r=>
  (jT out.Nodes ([r])).bind fun l2=>
  (kG ({out with Nodes:=l2}:aw)).bind fun r1=>
  if(r1.2 !=(0:Int))then
  (some ((⟨[]⟩:aw),r1.2))
  else
  (some (({out with Nodes:=l2}:aw),(0:Int)))
 |e::tl,i,n1,x,out=>
  (kG e).bind fun r2=>
  if(r2.2 !=(0:Int))then
  (some ((⟨[]⟩:aw),r2.2))
  else
  (ll (gD tl) i n1 x out e.Nodes out)

def np(n:aa)(l:(List aw)):Option (aw×Int):=
 gD l 0 (aa.mk n.Op (-1:Int) (-1:Int) n.Table n.Kinds n.Left n.Cond n.Keys n.Aggs n.Items n.Order n.Limit) (⟨[]⟩:aw) ({(⟨[]⟩:aw)with Nodes:=([]:List aa)}:aw)

def xV(n:aa)(a1:aw)(b:aw):Option (aw×Int):=
 (np n ([a1,b])).bind fun r=>
 some (r.1,r.2)

def xW(n:aa)(a1:aw):Option (aw×Int):=
 (np n ([a1])).bind fun r=>
 some (r.1,r.2)

def kY(parts:(List am))(e:Int)(l:aw):Option (am×Bool):=
  if(e !=(0:Int))then
  (some ((⟨(⟨[]⟩:aw),(⟨(0:Int),(0:Int),(0:Int),(0:Int),[],false,(⟨[]⟩:ai),[],[],[],[],(0:Int)⟩:aa),[]⟩:am),false))
  else
  ((cU l.Nodes (IntKind.i64.wrap ((l.Nodes.length:Int)-(1:Int)))).bind fun e1=>
  some ((⟨l,e1,parts⟩:am),true))

def d9(n:aa)(parts:(List am)):Option (am×Bool):=
  if((parts.length:Int)==(2:Int))then
  ((cU parts (0:Int)).bind fun e2=>
  (cU parts (1:Int)).bind fun e3=>
  (xV n e2.Logic e3.Logic).bind fun r=>
  kY parts r.2 r.1)
  else
  ((cU parts (0:Int)).bind fun e4=>
  (xW n e4.Logic).bind fun r1=>
  kY parts r1.2 r1.1)

def cJ(rec__:Option (List (Int×(am->Bool->Option (am×Int)))))(t:am)(deep:Bool):Option (am×Int):=
  (rec__).bind fun r=>
  if((n7 r t.root.Op).isSome)then
  ((((n7 r t.root.Op)).bind fun y=>y t deep).bind fun r1=>
  some (r1.1,r1.2))
  else
  (some (t,(0:Int)))

def dN(rec__:Option (List (Int×(am->Bool->Option (am×Int))))):Nat->am->am->Option (am×Bool)
  |0,_,_=>none
  |n+1,t1,x=>
    ((cJ rec__) t1 true).bind fun r=>
    if(r.2==(0:Int))then
    (some (t1,true))
    else
    (if(r.2==(2:Int))then
    (some (t1,false))
    else
    ((dN rec__ n) r.1 x))

def j8(rec__:Option (List (Int×(am->Bool->Option (am×Int)))))(t:am):Option (am×Bool):=
 dN rec__ gi t (⟨(⟨[]⟩:aw),(⟨(0:Int),(0:Int),(0:Int),(0:Int),[],false,(⟨[]⟩:ai),[],[],[],[],(0:Int)⟩:aa),[]⟩:am)

def rX(v:bN):Option bN:=
 some v

def s0(b:Bool):Option bN:=
 if b then
 (rX (bN.mk (⟨(1:Int),(0:Int),(0:Int),[]⟩:bN).Kind (1:Int) (⟨(1:Int),(0:Int),(0:Int),[]⟩:bN).U (⟨(1:Int),(0:Int),(0:Int),[]⟩:bN).S))
 else
 (rX (⟨(1:Int),(0:Int),(0:Int),[]⟩:bN))

def lv:List ai->Int->Option (Int×Int)
 |[],n=>
  some (n,(0:Int))
 |e::tl,n=>
  (me e).bind fun r=>
  if(r !=(0:Int))then
  (some ((0:Int),r))
  else
  ((lv tl) (IntKind.i64.wrap (n+(e.Nodes.length:Int))))

def o4(l:(List ai)):Option (Int×Int):=
 lv l (0:Int)

def om(nx:(List aj)->Option (List aj))(out1:List aj)(n1:aj):Option (List aj):=
 (jT out1 ([n1])).bind fun out2=>
 nx out2

def oo(out:(List aj))(nx:(List aj)->Option (List aj))(out1:List aj)(n:aj):Option (List aj):=
 if(decide ((0:Int)<=n.R))then
 (om nx out1 (aj.mk n.Tag n.L (IntKind.i64.wrap (n.R+(out.length:Int))) n.Col n.Value))
 else
 (om nx out1 n)

def iv(out:(List aj)):List aj->(List aj)->Option (List aj)
 |[],out1=>
  some out1
 |e1::tl,out1=>
  if(decide ((0:Int)<=e1.L))then
  (oo out (iv out tl) out1 (aj.mk e1.Tag (IntKind.i64.wrap (e1.L+(out.length:Int))) e1.R e1.Col e1.Value))
  else
  (oo out (iv out tl) out1 e1)

def va(out:(List aj))(e:ai):Option (List aj):=
 iv out e.Nodes out

def gN(root:aj):List ai->Nat->(List aj)->(List Int)->Option ai
 |[],i,out,at1=>
  (cU at1 (0:Int)).bind fun e1=>
  (cU at1 (1:Int)).bind fun e2=>
  (jT out ([(aj.mk ({root with L:=e1}:aj).Tag ({root with L:=e1}:aj).L e2 ({root with L:=e1}:aj).Col ({root with L:=e1}:aj).Value)])).bind fun l2=>
  some (⟨l2⟩:ai)
 |e::tl,i,out,at1=>
  (va out e).bind fun r=>
  (cU at1 (i:Int)).bind fun e3=>
  (some (at1.set (i:Int).toNat (IntKind.i64.wrap ((r.length:Int)-(1:Int))))).bind fun ar=>
  (gN root tl) (i+1) r ar

def i9(root:aj)(l:(List ai)):Option ai:=
 gN root l 0 ([]:List aj) ([(-1:Int),(-1:Int)])

def pR:List ai->ai->Option (ai×Int)
 |[],out=>
  some (out,(0:Int))
 |e1::tl,out=>
  (i9 (⟨(22:Int),(0:Int),(0:Int),(0:Int),(⟨(0:Int),(0:Int),(0:Int),[]⟩:bN)⟩:aj) ([out,e1])).bind fun r2=>
  (pR tl) r2

def ov(l:(List ai)):Option (ai×Int):=
  (o4 l).bind fun r=>
  if(r.2 !=(0:Int))then
  (some ((⟨[]⟩:ai),r.2))
  else
  (if((l.length:Int)==(0:Int))then
  (some ((⟨[]⟩:ai),(2:Int)))
  else
  (if(decide ((1000:Int)<(IntKind.i64.wrap ((IntKind.i64.wrap (r.1+(l.length:Int)))-(1:Int)))))then
  (some ((⟨[]⟩:ai),(3:Int)))
  else
  ((cU l (0:Int)).bind fun e=>
  (aX e.Nodes).bind fun r1=>
  (dk l (1:Int) (l.length:Int)).bind fun y=>
  pR y (⟨r1⟩:ai))))

def ip(t:am)(ok:Bool):Option (am×Int):=
 if(!ok)then
 (some (t,(2:Int)))
 else
 (some (t,(1:Int)))

def cq(rec__:Option (List (Int×(am->Bool->Option (am×Int)))))(t:am)(by1:(List ai))(deep:Bool):Option (am×Bool):=
  if((by1.length:Int)==(0:Int))then
  (some (t,true))
  else
  ((ov by1).bind fun r=>
  (d9 (⟨(3:Int),(0:Int),(0:Int),(0:Int),[],false,r.1,[],[],[],[],(0:Int)⟩:aa) ([t])).bind fun r1=>
  if(r1.2&&deep)then
  (((j8 rec__) r1.1).bind fun r2=>
  some (r2.1,r2.2))
  else
  (some (r1.1,r1.2)))

def ou(nx:(List ai)->(List Int)->Option (List ai))(out1:List ai)(open2:List Int):Option (List ai):=
 nx out1 open2

def ot(e3:Int)(nx1:Nat->ai->Option (List ai))(i:Nat)(part1:ai):Option (List ai):=
  (cU part1.Nodes (i:Int)).bind fun e6=>
  if(decide ((0:Int)<=e6.R))then
  ((some (part1.Nodes.set (i:Int).toNat ({e6 with R:=(IntKind.i64.wrap (e6.R-e3))}:aj))).bind fun st=>
  nx1 (i+1) ({part1 with Nodes:=st}:ai))
  else
  (nx1 (i+1) part1)

def i7(nx:(List ai)->(List Int)->Option (List ai))(out:List ai)(y:List Int)(e3:Int):List aj->Nat->ai->Option (List ai)
  |[],i,part=>
    (jT out ([part])).bind fun out2=>
    ou nx out2 y
  |e4::tl,i,part=>
    (cU part.Nodes (i:Int)).bind fun e5=>
    if(decide ((0:Int)<=e5.L))then
    ((some (part.Nodes.set (i:Int).toNat ({e5 with L:=(IntKind.i64.wrap (e5.L-e3))}:aj))).bind fun st1=>
    ot e3 (i7 nx out y e3 tl) i ({part with Nodes:=st1}:ai))
    else
    (ot e3 (i7 nx out y e3 tl) i part)

def gO(e:ai)(r:(List Int)×Bool):Nat->(List ai)->(List Int)->Option (List ai)
  |0,_,_=>none
  |n+1,out,open1=>
    if(decide ((0:Int)<(open1.length:Int)))then
    ((cU open1 (IntKind.i64.wrap ((open1.length:Int)-(1:Int)))).bind fun e1=>
    (dk open1 0 (IntKind.i64.wrap ((open1.length:Int)-(1:Int)))).bind fun y=>
    (cU e.Nodes e1).bind fun e2=>
    if(e2.Tag==(22:Int))then
    ((jT y ([e2.R,e2.L])).bind fun open3=>
    ou (gO e r n) out open3)
    else
    ((cU r.1 e1).bind fun e3=>
    (dk e.Nodes e3 (IntKind.i64.wrap (e1+(1:Int)))).bind fun y1=>
    (aX y1).bind fun r1=>
    i7 (gO e r n) out y e3 r1 0 ({(⟨r1⟩:ai)with Nodes:=r1}:ai)))
    else
    (some out)

def vb(e:ai):Option (List ai):=
 (pO e).bind fun r=>
 if(!r.2)then
 (some ([]:List ai))
 else
 (gO e r gi ([]:List ai) ([(IntKind.i64.wrap ((e.Nodes.length:Int)-(1:Int)))]))

def pr(nx:Nat->ai->ai->Option (ai×Int))(i:Nat)(x1:ai)(out1:ai):Option (ai×Int):=
 nx (i+1) x1 out1

def ja(by1:Int):List aj->Nat->ai->ai->Option (ai×Int)
  |[],i,x,out=>
    some (out,(0:Int))
  |e1::tl,i,x,out=>
    (cU out.Nodes (i:Int)).bind fun e2=>
    if(e2.Tag !=(2:Int))then
    (pr (ja by1 tl) i x out)
    else
    (if((decide (by1<(IntKind.i64.wrap (0-e2.Col))))||(decide ((IntKind.i64.wrap ((16:Int)-e2.Col))<=by1)))then
    (some ((⟨[]⟩:ai),(2:Int)))
    else
    ((some (out.Nodes.set (i:Int).toNat ({e2 with Col:=(IntKind.i64.wrap (e2.Col+by1))}:aj))).bind fun st=>
    pr (ja by1 tl) i x ({out with Nodes:=st}:ai)))

def tm(e:ai)(by1:Int):Option (ai×Int):=
  (me e).bind fun r=>
  if(r !=(0:Int))then
  (some ((⟨[]⟩:ai),r))
  else
  ((aX e.Nodes).bind fun r1=>
  ja by1 r1 0 (⟨[]⟩:ai) ({(⟨r1⟩:ai)with Nodes:=r1}:ai))

def gw(left:Int)(outer:Bool):List ai->(List (List ai))->Option (List (List ai))
  |[],to1=>
    some ([(mz to1 0),(mz to1 1),(mz to1 2)])
  |e::tl,to1=>
    (kq e).bind fun r1=>
    (if(!((r1.length:Int)==(0:Int)))then((cU r1 (IntKind.i64.wrap ((r1.length:Int)-(1:Int)))).bind fun e1=>
    some (decide (e1<left)))else some true).bind fun t=>
    if t then
    ((jT (mz to1 0) ([e])).bind fun l5=>
    (gw left outer tl) ([l5,(mz to1 1),(mz to1 2)]))
    else
    ((cU r1 (0:Int)).bind fun e2=>
    if((decide (left<=e2))&&(!outer))then
    ((tm e (IntKind.i64.wrap (0-left))).bind fun r2=>
    (jT (mz to1 1) ([r2.1])).bind fun l7=>
    (gw left outer tl) ([(mz to1 0),l7,(mz to1 2)]))
    else
    ((jT (mz to1 2) ([e])).bind fun l9=>
    (gw left outer tl) ([(mz to1 0),(mz to1 1),l9])))

def mS(cond:ai)(left:Int)(outer:Bool):Option (List (List ai)):=
 (vb cond).bind fun r=>
 gw left outer r ([([]:List ai),([]:List ai),([]:List ai)])

def l0(l:aw):Option ((List Int)×Int):=
  (lY l).bind fun r=>
  if(!r.2.2)then
  (some ([],(230:Int)))
  else
  ((cU r.1.kinds r.2.1).bind fun e=>
  (cu e).bind fun r1=>
  some (r1,(0:Int)))

def fW(rec__:Option (List (Int×(am->Bool->Option (am×Int)))))(t:am)(deep:Bool)(e:am)(r1:(List (List ai))):List am->Nat->(List am)->am->Option (am×Int)
  |[],i,parts,x=>
    (d9 (⟨(2:Int),(0:Int),(0:Int),(0:Int),[],e.root.Left,e.root.Cond,[],[],[],[],(0:Int)⟩:aa) parts).bind fun r2=>
    if(!r2.2)then
    (some (t,(2:Int)))
    else
    ((cU r1 (2:Int)).bind fun e5=>
    ((cq rec__) r2.1 e5 false).bind fun r3=>
    (ip r3.1 r3.2).bind fun r4=>
    some (r4.1,r4.2))
  |e4::tl,i,parts,x=>
    (cU r1 (i:Int)).bind fun e6=>
    ((cq rec__) e4 e6 deep).bind fun r5=>
    if(!r5.2)then
    (some (t,(2:Int)))
    else
    ((jT parts ([r5.1])).bind fun parts1=>
    (fW rec__ t deep e r1 tl) (i+1) parts1 x)

def fG(rec__:Option (List (Int×(am->Bool->Option (am×Int)))))(t:am)(deep:Bool):Option (am×Int):=
 (cU t.parts (0:Int)).bind fun e=>
 (cU e.parts (0:Int)).bind fun e1=>
 (l0 e1.Logic).bind fun r=>
 (mS t.root.Cond (r.1.length:Int) e.root.Left).bind fun r1=>
 (cU r1 (0:Int)).bind fun e2=>
 (cU r1 (1:Int)).bind fun e3=>
 if((IntKind.i64.wrap ((e2.length:Int)+(e3.length:Int)))==(0:Int))then
 (some (t,(0:Int)))
 else
 (fW rec__ t deep e r1 e.parts 0 ([]:List am) (⟨(⟨[]⟩:aw),(⟨(0:Int),(0:Int),(0:Int),(0:Int),[],false,(⟨[]⟩:ai),[],[],[],[],(0:Int)⟩:aa),[]⟩:am))

def cR(f:(aj->Option Bool)):List aj->Nat->Option Int
 |[],i=>
  some (-1:Int)
 |e::tl,i=>
  (f e).bind fun r=>
  if r then
  (some (i:Int))
  else
  ((cR f tl) (i+1))

def fO(s:(List aj))(f:(aj->Option Bool)):Option Int:=
 cR f s 0

def dI(s:(List aj))(f:(aj->Option Bool)):Option Bool:=
 (fO s f).bind fun r=>
 some (decide ((0:Int)<=r))

def pP(n:aj):Option Bool:=
 (pZ n.Tag).bind fun r=>
 some r

def mE(e:ai):Option Bool:=
  (me e).bind fun r=>
  (if(r==(0:Int))then((dI e.Nodes pP).bind fun r1=>
  some (!r1))else some false).bind fun t=>
  some t

def dw(rec__:Option (List (Int×(am->Bool->Option (am×Int)))))(t:am)(deep:Bool):Option (am×Int):=
  (cU t.parts (0:Int)).bind fun e=>
  (mE t.root.Cond).bind fun r=>
  (if((t.root.Cond.Nodes.length:Int)==(1:Int))then((cU t.root.Cond.Nodes (0:Int)).bind fun e1=>
  (s0 true).bind fun r1=>
  some (decide (e1.Value=r1)))else some false).bind fun t1=>
  if t1 then
  (some (e,(1:Int)))
  else
  (if((e.root.Op==(3:Int))&&r)then
  ((ov ([e.root.Cond,t.root.Cond])).bind fun r2=>
  if(r2.2 !=(0:Int))then
  (some (t,(0:Int)))
  else
  ((cU e.parts (0:Int)).bind fun e2=>
  (d9 (⟨(3:Int),(0:Int),(0:Int),(0:Int),[],false,r2.1,[],[],[],[],(0:Int)⟩:aa) ([e2])).bind fun r3=>
  (ip r3.1 r3.2).bind fun r4=>
  some (r4.1,r4.2)))
  else
  ((if((e.root.Op==(2:Int))&&r)then((mE e.root.Cond).bind fun r5=>
  some r5)else some false).bind fun t2=>
  if t2 then
  (((fG rec__) t deep).bind fun r6=>
  some (r6.1,r6.2))
  else
  (some (t,(0:Int)))))

def iK(e:ai):Option Bool:=
 (mE e).bind fun r=>
 some (!r)

def jL(stack:(List ai))(k:Int):Option ((List ai)×(List ai)):=
 (dk stack (IntKind.i64.wrap ((stack.length:Int)-k)) (stack.length:Int)).bind fun y=>
 (ce y).bind fun r=>
 (dk stack 0 (IntKind.i64.wrap ((stack.length:Int)-k))).bind fun y1=>
 some (r,y1)

def lG(bad:Int)(stack:List ai):Option (ai×Int):=
  if(bad !=(0:Int))then
  (some ((⟨[]⟩:ai),bad))
  else
  ((cU stack (0:Int)).bind fun e1=>
  some (e1,(0:Int)))

def d7(do1:(aj->(List ai)->Option (ai×Int))):List aj->Int->(List ai)->Option (ai×Int)
  |[],bad1,stack1=>
    lG bad1 stack1
  |e2::tl,bad1,stack1=>
    (nt e2.Tag).bind fun r=>
    (jL stack1 r).bind fun r1=>
    (do1 e2 r1.1).bind fun r2=>
    if(r2.2 !=(0:Int))then
    (lG r2.2 r1.2)
    else
    ((jT r1.2 ([r2.1])).bind fun l2=>
    (d7 do1 tl) bad1 l2)

def jl(e:ai)(do1:(aj->(List ai)->Option (ai×Int))):Option (ai×Int):=
 d7 do1 e.Nodes (0:Int) ([]:List ai)

def ig(c:(List ai))(n:aj)(parts:(List ai)):Option (ai×Int):=
  if(n.Tag==(2:Int))then
  ((cU c n.Col).bind fun e=>
  (aX e.Nodes).bind fun r=>
  some ((⟨r⟩:ai),(0:Int)))
  else
  ((i9 n parts).bind fun r1=>
  some (r1,(0:Int)))

def kH(e:ai)(l:(List ai)):List aj->Int->Option (ai×Int)
  |[],n=>
    if(decide ((1000:Int)<n))then
    (some ((⟨[]⟩:ai),(3:Int)))
    else
    ((jl e (ig l)).bind fun r2=>
    some (r2.1,r2.2))
  |e2::tl1,n=>
    if(e2.Tag==(2:Int))then
    ((cU l e2.Col).bind fun e3=>
    (kH e l tl1) (IntKind.i64.wrap ((IntKind.i64.wrap (n+(1:Int)))+(IntKind.i64.wrap ((e3.Nodes.length:Int)-(1:Int))))))
    else
    ((kH e l tl1) (IntKind.i64.wrap (n+(1:Int))))

def pQ(e:ai)(l:(List ai)):List Int->ai->Option (ai×Int)
 |[],x=>
  kH e l e.Nodes (0:Int)
 |e1::tl,x=>
  if(decide ((l.length:Int)<=e1))then
  (some ((⟨[]⟩:ai),(2:Int)))
  else
  ((pQ e l tl) x)

def xh(e:ai)(l:(List ai)):Option (ai×Int):=
  (jT ([e]) l).bind fun l2=>
  (o4 l2).bind fun r=>
  if(r.2 !=(0:Int))then
  (some ((⟨[]⟩:ai),r.2))
  else
  ((kq e).bind fun r1=>
  pQ e l r1 (⟨[]⟩:ai))

def db(f:(ai->Option Bool)):List ai->Nat->Option Int
 |[],i=>
  some (-1:Int)
 |e::tl,i=>
  (f e).bind fun r=>
  if r then
  (some (i:Int))
  else
  ((db f tl) (i+1))

def gm(s:(List ai))(f:(ai->Option Bool)):Option Int:=
 db f s 0

def dc(s:(List ai))(f:(ai->Option Bool)):Option Bool:=
 (gm s f).bind fun r=>
 some (decide ((0:Int)<=r))

def fv(t:am)(e:am):List ai->(List ai)->am->Option (am×Int)
  |[],items,x1=>
    (cU e.parts (0:Int)).bind fun e2=>
    (d9 (⟨(5:Int),(0:Int),(0:Int),(0:Int),[],false,(⟨[]⟩:ai),[],[],items,[],(0:Int)⟩:aa) ([e2])).bind fun r1=>
    (ip r1.1 r1.2).bind fun r2=>
    some (r2.1,r2.2)
  |e1::tl,items,x1=>
    (xh e1 e.root.Items).bind fun r3=>
    if(r3.2 !=(0:Int))then
    (some (t,(0:Int)))
    else
    ((jT items ([r3.1])).bind fun items1=>
    (fv t e tl) items1 x1)

def eS(t:am)(x:Bool):Option (am×Int):=
  (cU t.parts (0:Int)).bind fun e=>
  (if(!(e.root.Op !=(5:Int)))then((dc e.root.Items iK).bind fun r=>
  some r)else some true).bind fun t1=>
  if t1 then
  (some (t,(0:Int)))
  else
  (fv t e t.root.Items ([]:List ai) (⟨(⟨[]⟩:aw),(⟨(0:Int),(0:Int),(0:Int),(0:Int),[],false,(⟨[]⟩:ai),[],[],[],[],(0:Int)⟩:aa),[]⟩:am))

def gS(t:am)(e:am)(has:List (Int×Bool)):List Int->Nat->am->Option (am×Int)
 |[],i1,x1=>
  some (e,(1:Int))
 |e3::tl1,i1,x1=>
  if(!((n7 has (i1:Int)).getD false))then
  (some (t,(0:Int)))
  else
  ((gS t e has tl1) (i1+1) x1)

def fP(t:am)(e:am)(y:am):List ai->(List (Int×Bool))->Option (am×Int)
 |[],has=>
  gS t e has y.root.Keys 0 (⟨(⟨[]⟩:aw),(⟨(0:Int),(0:Int),(0:Int),(0:Int),[],false,(⟨[]⟩:ai),[],[],[],[],(0:Int)⟩:aa),[]⟩:am)
 |e2::tl,has=>
  (cU e2.Nodes (0:Int)).bind fun e4=>
  if(((e2.Nodes.length:Int)==(1:Int))&&(e4.Tag==(2:Int)))then
  ((fP t e y tl) (eM has e4.Col true))
  else
  ((fP t e y tl) has)

def dG(t:am)(e:am)(y:am):Option (am×Int):=
 if(y.root.Op !=(4:Int))then
 (some (t,(0:Int)))
 else
 (fP t e y e.root.Items ([]:List (Int×Bool)))

def eX(t:am)(x:Bool):Option (am×Int):=
  (cU t.parts (0:Int)).bind fun e=>
  if(e.root.Op==(6:Int))then
  (some (e,(1:Int)))
  else
  (if(e.root.Op !=(5:Int))then
  (some (t,(0:Int)))
  else
  ((cU e.parts (0:Int)).bind fun e1=>
  if(e1.root.Op==(3:Int))then
  ((cU e1.parts (0:Int)).bind fun e5=>
  dG t e e5)
  else
  (dG t e e1)))

def tG(rec__:Option (List (Int×(am->Bool->Option (am×Int))))):Option (List (Int×(am->Bool->Option (am×Int)))):=
 some (eM (eM (eM ([]:List (Int×(am->Bool->Option (am×Int)))) (3:Int) (dw rec__)) (5:Int) eS) (6:Int) eX)

def bz:Nat->Option (List (Int×(am->Bool->Option (am×Int))))
 |0=>none
 |fu+1=>tG (bz fu)

def li:Option (List (Int×(am->Bool->Option (am×Int)))):=bz gi

def pf(x0:am)(x1:Bool):Option (am×Int):=cJ li x0 x1

def kN(x0:am):Option (am×Bool):=j8 li x0

def cZ(self__:am->Option (am×Bool))(t:am):List am->(List am)->am->Option (am×Bool)
  |[],parts,x=>
    (d9 t.root parts).bind fun r=>
    if(!r.2)then
    (some (t,false))
    else
    ((kN r.1).bind fun r1=>
    some (r1.1,r1.2))
  |e::tl,parts,x=>
    (self__ e).bind fun r2=>
    if(!r2.2)then
    (some (t,false))
    else
    ((jT parts ([r2.1])).bind fun parts1=>
    (cZ self__ t tl) parts1 x)

def cF:Nat->am->Option (am×Bool)
 |0,_=>none
 |fu+1,t=>
  if((t.parts.length:Int)==(0:Int))then
  (some (t,true))
  else
  (cZ (cF fu) t t.parts ([]:List am) (⟨(⟨[]⟩:aw),(⟨(0:Int),(0:Int),(0:Int),(0:Int),[],false,(⟨[]⟩:ai),[],[],[],[],(0:Int)⟩:aa),[]⟩:am))

def lJ(t:am):Option (am×Bool):=
 cF gi t

def ln(l:aw)(place:Int)(e:Int):Nat->Int->aw->Option (aw×Int)
  |0,_,_=>none
  |n+1,i,out=>
    if(decide (i<=place))then
    ((cU l.Nodes i).bind fun e1=>
    (mA e1 (IntKind.i64.wrap (0-e))).bind fun r1=>
    (jT out.Nodes ([r1])).bind fun l2=>
    (ln l place e n) (IntKind.i64.wrap (i+(1:Int))) ({out with Nodes:=l2}:aw))
    else
    (some (out,(0:Int)))

def lZ(l:aw)(place:Int):Option (aw×Int):=
  (lY l).bind fun r=>
  if(!r.2.2)then
  (some ((⟨[]⟩:aw),(230:Int)))
  else
  (if((decide (place<(0:Int)))||(decide ((l.Nodes.length:Int)<=place)))then
  (some ((⟨[]⟩:aw),(2:Int)))
  else
  ((cU r.1.first place).bind fun e=>
  ln l place e gi e ({(⟨[]⟩:aw)with Nodes:=([]:List aa)}:aw)))

def dx(self__:aw->Option am)(l:aw)(e:aa):Nat->Nat->am->Option am
  |0,i,t=>
    some t
  |k1+1,i,t=>
    (cU ([((⟨l,e,[]⟩:am).root).A,((⟨l,e,[]⟩:am).root).B]) (i:Int)).bind fun e2=>
    if(decide ((0:Int)<=e2))then
    ((lZ l e2).bind fun r=>
    (self__ r.1).bind fun r1=>
    (jT t.parts ([r1])).bind fun l2=>
    (dx self__ l e k1) (i+1) ({t with parts:=l2}:am))
    else
    ((dx self__ l e k1) (i+1) t)

def gW:Nat->aw->Option am
 |0,_=>none
 |fu+1,l=>
  (cU l.Nodes (IntKind.i64.wrap ((l.Nodes.length:Int)-(1:Int)))).bind fun e=>
  dx (gW fu) l e 2 0 ({(⟨l,e,[]⟩:am)with parts:=([]:List am)}:am)

def pg(l:aw):Option am:=
 gW gi l

def ec(l:aw):Option (aw×Int):=
  (kG l).bind fun r=>
  if(r.2 !=(0:Int))then
  (some ((⟨[]⟩:aw),r.2))
  else
  ((pg l).bind fun r1=>
  (lJ r1).bind fun r2=>
  if(!r2.2)then
  (some (l,(0:Int)))
  else
  (some (r2.1.Logic,(0:Int))))

def lU(l:aw):Option (aw×Bool×Int):=
  (kG l).bind fun r=>
  if(r.2 !=(0:Int))then
  (some ((⟨[]⟩:aw),false,r.2))
  else
  ((pg l).bind fun r1=>
  (pf r1 false).bind fun r2=>
  if(r2.2 !=(1:Int))then
  (some (l,false,(0:Int)))
  else
  (some (r2.1.Logic,true,(0:Int))))

def r9(nx1:ai->Option ai)(out1:ai)(n1:aj):Option ai:=
 (jT out1.Nodes ([n1])).bind fun l5=>
 nx1 ({out1 with Nodes:=l5}:ai)

def sd(out:ai)(nx1:ai->Option ai)(out1:ai)(n:aj):Option ai:=
 if(decide ((0:Int)<=n.R))then
 (r9 nx1 out1 (aj.mk n.Tag n.L (IntKind.i64.wrap (n.R+(out.Nodes.length:Int))) n.Col n.Value))
 else
 (r9 nx1 out1 n)

def lj(nx:Nat->aj->ai->Option ai)(i:Nat)(gV:aj)(out:ai):List aj->ai->Option ai
 |[],out1=>
  if((i:Int)==(0:Int))then
  (nx (i+1) (aj.mk gV.Tag (IntKind.i64.wrap ((out1.Nodes.length:Int)-(1:Int))) gV.R gV.Col gV.Value) out1)
  else
  (nx (i+1) (aj.mk gV.Tag gV.L (IntKind.i64.wrap ((out1.Nodes.length:Int)-(1:Int))) gV.Col gV.Value) out1)
 |e1::tl1,out1=>
  if(decide ((0:Int)<=e1.L))then
  (sd out (lj nx i gV out tl1) out1 (aj.mk e1.Tag (IntKind.i64.wrap (e1.L+(out.Nodes.length:Int))) e1.R e1.Col e1.Value))
  else
  (sd out (lj nx i gV out tl1) out1 e1)

def lk:List ai->Nat->aj->ai->Option ai
 |[],i,gV,out=>
  (jT out.Nodes ([gV])).bind fun l2=>
  some ({out with Nodes:=l2}:ai)
 |e::tl,i,gV,out=>
  lj (lk tl) i gV out e.Nodes out

def lW(root:aj)(l:(List ai)):Option ai:=
 lk l 0 (aj.mk root.Tag (-1:Int) (-1:Int) root.Col root.Value) ({(⟨[]⟩:ai)with Nodes:=([]:List aj)}:ai)

def BX(n:Int):Option bN:=
 some (⟨(2:Int),n,(0:Int),[]⟩:bN)

def rz(col:Int)(n:Int):Option ai:=
 (lW (⟨(2:Int),(0:Int),(0:Int),col,(⟨(0:Int),(0:Int),(0:Int),[]⟩:bN)⟩:aj) ([])).bind fun r=>
 (BX n).bind fun r1=>
 (lW (⟨(1:Int),(0:Int),(0:Int),(0:Int),r1⟩:aj) ([])).bind fun r2=>
 (lW (⟨(16:Int),(0:Int),(0:Int),(0:Int),(⟨(0:Int),(0:Int),(0:Int),[]⟩:bN)⟩:aj) ([r,r2])).bind fun r3=>
 some r3

def uD:Option aw:=
 (rz (0:Int) (1:Int)).bind fun r=>
 (rz (1:Int) (2:Int)).bind fun r1=>
 (lW (⟨(22:Int),(0:Int),(0:Int),(0:Int),(⟨(0:Int),(0:Int),(0:Int),[]⟩:bN)⟩:aj) ([r,r1])).bind fun r2=>
 (lW (⟨(2:Int),(0:Int),(0:Int),(0:Int),(⟨(0:Int),(0:Int),(0:Int),[]⟩:bN)⟩:aj) ([])).bind fun r3=>
 (lW (⟨(2:Int),(0:Int),(0:Int),(1:Int),(⟨(0:Int),(0:Int),(0:Int),[]⟩:bN)⟩:aj) ([])).bind fun r4=>
 (lW (⟨(16:Int),(0:Int),(0:Int),(0:Int),(⟨(0:Int),(0:Int),(0:Int),[]⟩:bN)⟩:aj) ([r3,r4])).bind fun r5=>
 some (⟨[(⟨(1:Int),(-1:Int),(-1:Int),(0:Int),[(2:Int)],false,(⟨[]⟩:ai),[],[],[],[],(0:Int)⟩:aa),(⟨(1:Int),(-1:Int),(-1:Int),(1:Int),[(2:Int)],false,(⟨[]⟩:ai),[],[],[],[],(0:Int)⟩:aa),(⟨(2:Int),(0:Int),(1:Int),(0:Int),[],false,r5,[],[],[],[],(0:Int)⟩:aa),(⟨(3:Int),(2:Int),(-1:Int),(0:Int),[],false,r2,[],[],[],[],(0:Int)⟩:aa)]⟩:aw)

def r0(b:ai):List aj->Nat->Option Bool
 |[],i=>
  some true
 |e::tl,i=>
  (cU b.Nodes (i:Int)).bind fun e1=>
  if(!decide (e=e1))then
  (some false)
  else
  ((r0 b tl) (i+1))

def Al(a1:ai)(b:ai):Option Bool:=
 if((a1.Nodes.length:Int) !=(b.Nodes.length:Int))then
 (some false)
 else
 (r0 b a1.Nodes 0)

def uC:Option Bool:=
  (uD).bind fun r=>
  (ec r).bind fun r1=>
  (uD).bind fun r2=>
  (lU r2).bind fun r3=>
  (if((((r1.2==(0:Int))&&(r3.2.2==(0:Int)))&&r3.2.1)&&((r1.1.Nodes.length:Int)==(5:Int)))then((cU r1.1.Nodes (1:Int)).bind fun e=>
  some (e.Op==(3:Int)))else some false).bind fun t=>
  (if t then((cU r1.1.Nodes (3:Int)).bind fun e1=>
  some (e1.Op==(3:Int)))else some false).bind fun t1=>
  (if t1 then((cU r1.1.Nodes (4:Int)).bind fun e2=>
  some (e2.Op==(2:Int)))else some false).bind fun t2=>
  (if t2 then((cU r1.1.Nodes (3:Int)).bind fun e3=>
  (rz (0:Int) (2:Int)).bind fun r4=>
  (Al e3.Cond r4).bind fun r5=>
  some r5)else some false).bind fun t3=>
  some t3

def mN(l:(List aj))(most:Int):Option (List aj):=
 (dk l 0 (min (l.length:Int) most)).bind fun y=>
 (jT ([]:List aj) y).bind fun x=>
 some x

def kf:List aj->Nat->ai->Option ai
 |[],i,out=>
  some out
 |e1::tl,i,out=>
  (cU out.Nodes (i:Int)).bind fun e2=>
  (dk e2.Value.S 0 (min (e2.Value.S.length:Int) (41:Int))).bind fun y=>
  (some (out.Nodes.set (i:Int).toNat ({e2 with Value:=({e2.Value with S:=y}:bN)}:aj))).bind fun st=>
  (kf tl) (i+1) ({out with Nodes:=st}:ai)

def nG(e:ai):Option ai:=
 (mN e.Nodes (60:Int)).bind fun r=>
 kf r 0 ({(⟨r⟩:ai)with Nodes:=r}:ai)

def yF(tag:Int):Option Int:=
  if((decide (tag<(1:Int)))||(decide ((23:Int)<tag)))then
  (some (-1:Int))
  else
  (if(decide (tag<=(3:Int)))then
  (some (0:Int))
  else
  (if(decide (tag<=(11:Int)))then
  (some (1:Int))
  else
  (some (2:Int))))

def uw(tag:Int):Option Int:=
  if((tag==(3:Int))||((decide ((8:Int)<=tag))&&(decide (tag<=(11:Int)))))then
  (some (-1:Int))
  else
  ((yF tag).bind fun r=>
  some r)

def nC(v:bN):Option Bool:=
  if(v.Kind==(0:Int))then
  (some (decide (v=(⟨(0:Int),(0:Int),(0:Int),[]⟩:bN))))
  else
  (if(v.Kind==(1:Int))then
  (some (((v.U==(0:Int))&&(v.S==([])))&&((v.N==(0:Int))||(v.N==(1:Int)))))
  else
  (if(v.Kind==(2:Int))then
  (some ((v.U==(0:Int))&&(v.S==([]))))
  else
  (if(v.Kind==(3:Int))then
  (some (((v.N==(0:Int))&&(v.U==(0:Int)))&&(decide ((v.S.length:Int)<=(40:Int)))))
  else
  (some ((v.Kind==(4:Int))&&(v.S==([])))))))

def ux(v:bN):Option Bool:=
 (nC v).bind fun r=>
 some (r&&(v.Kind !=(4:Int)))

def jF(n:aj):Option Bool:=
  if(n.Tag==(1:Int))then
  ((ux n.Value).bind fun r=>
  some (r&&(n.Col==(0:Int))))
  else
  (if(n.Tag==(2:Int))then
  (some (((decide (n.Value=(⟨(0:Int),(0:Int),(0:Int),[]⟩:bN)))&&(decide ((0:Int)<=n.Col)))&&(decide (n.Col<(16:Int)))))
  else
  (some ((decide (n.Value=(⟨(0:Int),(0:Int),(0:Int),[]⟩:bN)))&&(n.Col==(0:Int)))))

def iq:Nat->ai->Int->Option Int
  |0,_,_=>none
  |fu+1,e,place=>
    if((decide (place<(0:Int)))||(decide ((e.Nodes.length:Int)<=place)))then
    (some (0:Int))
    else
    ((cU e.Nodes place).bind fun e1=>
    (uw e1.Tag).bind fun r=>
    (if(!(decide (r<(0:Int))))then((jF e1).bind fun r1=>
    some (!r1))else some true).bind fun t=>
    if t then
    (some (0:Int))
    else
    (if(r==(0:Int))then
    (if((e1.L !=(-1:Int))||(e1.R !=(-1:Int)))then
    (some (0:Int))
    else
    (some (1:Int)))
    else
    (((iq fu) e (IntKind.i64.wrap (place-(1:Int)))).bind fun r2=>
    if(r2==(0:Int))then
    (some (0:Int))
    else
    (if(r==(1:Int))then
    (if((e1.L !=(IntKind.i64.wrap (place-(1:Int))))||(e1.R !=(-1:Int)))then
    (some (0:Int))
    else
    (some (IntKind.i64.wrap (r2+(1:Int)))))
    else
    (((iq fu) e (IntKind.i64.wrap ((IntKind.i64.wrap (place-(1:Int)))-r2))).bind fun r3=>
    if(((r3==(0:Int))||(e1.R !=(IntKind.i64.wrap (place-(1:Int)))))||(e1.L !=(IntKind.i64.wrap ((IntKind.i64.wrap (place-(1:Int)))-r2))))then
    (some (0:Int))
    else
    (some (IntKind.i64.wrap ((IntKind.i64.wrap (r3+r2))+(1:Int)))))))))

def Ak(e:ai)(place:Int):Option Int:=
 iq gi e place

def uv(e:ai):Option Bool:=
  (if((decide ((1:Int)<=(e.Nodes.length:Int)))&&(decide ((e.Nodes.length:Int)<=(1000:Int))))then((Ak e (IntKind.i64.wrap ((e.Nodes.length:Int)-(1:Int)))).bind fun r=>
  some (r==(e.Nodes.length:Int)))else some false).bind fun t=>
  some t

def se(nx:Nat->(List Int)->Option (List Int))(i:Nat)(out1:List Int):Option (List Int):=
 nx (i+1) out1

def pj(nx:Nat->(List Int)->Option (List Int))(i:Nat):List aj->(List Int)->Option (List Int)
  |[],out2=>
    se nx i out2
  |e2::tl,out2=>
    if((e2.Tag==(2:Int))&&(e2.Col==(i:Int)))then
    ((jT out2 ([(i:Int)])).bind fun out3=>
    se nx i out3)
    else
    ((pj nx i tl) out2)

def mW(e:ai):Nat->Nat->(List Int)->Option (List Int)
 |0,i,out=>
  some out
 |k1+1,i,out=>
  pj (mW e k1) i e.Nodes out

def lX(e:ai):Option (List Int):=
 mW e 16 0 ([]:List Int)

def An(e:ai):Option ai:=
 (jT ([]:List aj) e.Nodes).bind fun l1=>
 some (⟨l1⟩:ai)

def kb(by1:Int):List aj->Nat->ai->Option (ai×Int)
  |[],i2,out=>
    some (out,(0:Int))
  |e2::tl1,i2,out=>
    (cU out.Nodes (i2:Int)).bind fun e3=>
    (cU out.Nodes (i2:Int)).bind fun e4=>
    if(e4.Tag==(2:Int))then
    ((some (out.Nodes.set (i2:Int).toNat ({e4 with Col:=(IntKind.i64.wrap (e4.Col+by1))}:aj))).bind fun st=>
    (kb by1 tl1) (i2+1) ({out with Nodes:=st}:ai))
    else
    ((kb by1 tl1) (i2+1) out)

def lV(e:ai)(by1:Int):List Int->ai->Option (ai×Int)
 |[],x=>
  (An e).bind fun r1=>
  kb by1 r1.Nodes 0 r1
 |e1::tl,x=>
  if((((decide (by1<(-16:Int)))||(decide ((16:Int)<by1)))||(decide ((IntKind.i64.wrap (e1+by1))<(0:Int))))||(decide ((16:Int)<=(IntKind.i64.wrap (e1+by1)))))then
  (some ((⟨[]⟩:ai),(2:Int)))
  else
  ((lV e by1 tl) x)

def yE(e:ai)(by1:Int):Option (ai×Int):=
 (lX e).bind fun r=>
 lV e by1 r (⟨[]⟩:ai)

def mM(l:(List aa))(most:Int):Option (List aa):=
 (dk l 0 (min (l.length:Int) most)).bind fun y=>
 (jT ([]:List aa) y).bind fun x=>
 some x

def m5(l:(List Int))(most:Int):Option (List Int):=
 (dk l 0 (min (l.length:Int) most)).bind fun y=>
 (jT ([]:List Int) y).bind fun x=>
 some x

def oc(l:(List gQ))(most:Int):Option (List gQ):=
 (dk l 0 (min (l.length:Int) most)).bind fun y=>
 (jT ([]:List gQ) y).bind fun x=>
 some x

def nq(l:(List ai))(most:Int):Option (List ai):=
 (dk l 0 (min (l.length:Int) most)).bind fun y=>
 (jT ([]:List ai) y).bind fun x=>
 some x

def lM(l:(List jU))(most:Int):Option (List jU):=
 (dk l 0 (min (l.length:Int) most)).bind fun y=>
 (jT ([]:List jU) y).bind fun x=>
 some x

def mB(nx:Nat->aw->Option aw)(i:Nat)(out:aw):List ai->Nat->aa->Option aw
 |[],i2,n1=>
  (nG n1.Cond).bind fun r6=>
  (some (out.Nodes.set (i:Int).toNat ({({({n1 with Cond:=r6}:aa)with Aggs:=n1.Aggs}:aa)with Items:=n1.Items}:aa))).bind fun st=>
  nx (i+1) ({out with Nodes:=st}:aw)
 |e4::tl2,i2,n1=>
  (cU n1.Items (i2:Int)).bind fun e5=>
  (cU n1.Items (i2:Int)).bind fun e6=>
  (nG e6).bind fun r7=>
  (some (n1.Items.set (i2:Int).toNat r7)).bind fun st1=>
  (mB nx i out tl2) (i2+1) ({n1 with Items:=st1}:aa)

def mC(nx:Nat->aw->Option aw)(i:Nat)(out:aw):List gQ->Nat->aa->Option aw
 |[],i1,n=>
  mB nx i out n.Items 0 n
 |e3::tl1,i1,n=>
  (cU n.Aggs (i1:Int)).bind fun e7=>
  (cU n.Aggs (i1:Int)).bind fun e8=>
  (nG e8.Arg).bind fun r8=>
  (some (n.Aggs.set (i1:Int).toNat ({e8 with Arg:=r8}:gQ))).bind fun st2=>
  (mC nx i out tl1) (i1+1) ({n with Aggs:=st2}:aa)

def jI:List aa->Nat->aw->Option aw
 |[],i,out=>
  some out
 |e::tl,i,out=>
  (cU out.Nodes (i:Int)).bind fun e1=>
  (cU out.Nodes (i:Int)).bind fun e2=>
  (m5 e2.Kinds (6:Int)).bind fun r1=>
  (m5 e2.Keys (6:Int)).bind fun r2=>
  (oc e2.Aggs (14:Int)).bind fun r3=>
  (nq e2.Items (17:Int)).bind fun r4=>
  (lM e2.Order (5:Int)).bind fun r5=>
  mC (jI tl) i out r3 0 ({({({(aa.mk e2.Op e2.A e2.B e2.Table r1 e2.Left e2.Cond r2 e2.Aggs e2.Items e2.Order e2.Limit)with Order:=r5}:aa)with Aggs:=r3}:aa)with Items:=r4}:aa)

def u4(l:aw):Option aw:=
 (mM l.Nodes (61:Int)).bind fun r=>
 jI r 0 ({(⟨r⟩:aw)with Nodes:=r}:aw)

def bD(s2:(List aa))(eq:(aa->aa->Option Bool)):List aa->Nat->Option Bool
 |[],i=>
  some true
 |e::tl,i=>
  (cU s2 (i:Int)).bind fun e1=>
  (eq e e1).bind fun r=>
  if(!r)then
  (some false)
  else
  ((bD s2 eq tl) (i+1))

def cX(s1:(List aa))(s2:(List aa))(eq:(aa->aa->Option Bool)):Option Bool:=
 if((s1.length:Int) !=(s2.length:Int))then
 (some false)
 else
 (bD s2 eq s1 0)

def gv(s2:(List Int)):List Int->Nat->Option Bool
 |[],i=>
  some true
 |e::tl,i=>
  (cU s2 (i:Int)).bind fun e1=>
  if(e !=e1)then
  (some false)
  else
  ((gv s2 tl) (i+1))

def iD(s1:(List Int))(s2:(List Int)):Option Bool:=
 if((s1.length:Int) !=(s2.length:Int))then
 (some false)
 else
 (gv s2 s1 0)

def du(s2:(List aj)):List aj->Nat->Option Bool
 |[],i=>
  some true
 |e::tl,i=>
  (cU s2 (i:Int)).bind fun e1=>
  if(!decide (e=e1))then
  (some false)
  else
  ((du s2 tl) (i+1))

def gH(s1:(List aj))(s2:(List aj)):Option Bool:=
 if((s1.length:Int) !=(s2.length:Int))then
 (some false)
 else
 (du s2 s1 0)

def nH(a1:ai)(b:ai):Option Bool:=
 (gH a1.Nodes b.Nodes).bind fun r=>
 some r

def kP(p:gQ)(y:gQ):Option Bool:=
  (if(p.Tag==y.Tag)then((nH p.Arg y.Arg).bind fun r=>
  some r)else some false).bind fun t=>
  some t

def d6(s2:(List jU)):List jU->Nat->Option Bool
 |[],i=>
  some true
 |e::tl,i=>
  (cU s2 (i:Int)).bind fun e1=>
  if(!decide (e=e1))then
  (some false)
  else
  ((d6 s2 tl) (i+1))

def gh(s1:(List jU))(s2:(List jU)):Option Bool:=
 if((s1.length:Int) !=(s2.length:Int))then
 (some false)
 else
 (d6 s2 s1 0)

def ca(s2:(List gQ))(eq:(gQ->gQ->Option Bool)):List gQ->Nat->Option Bool
 |[],i=>
  some true
 |e::tl,i=>
  (cU s2 (i:Int)).bind fun e1=>
  (eq e e1).bind fun r=>
  if(!r)then
  (some false)
  else
  ((ca s2 eq tl) (i+1))

def cO(s1:(List gQ))(s2:(List gQ))(eq:(gQ->gQ->Option Bool)):Option Bool:=
 if((s1.length:Int) !=(s2.length:Int))then
 (some false)
 else
 (ca s2 eq s1 0)

def bK(s2:(List ai))(eq:(ai->ai->Option Bool)):List ai->Nat->Option Bool
 |[],i=>
  some true
 |e::tl,i=>
  (cU s2 (i:Int)).bind fun e1=>
  (eq e e1).bind fun r=>
  if(!r)then
  (some false)
  else
  ((bK s2 eq tl) (i+1))

def cv(s1:(List ai))(s2:(List ai))(eq:(ai->ai->Option Bool)):Option Bool:=
 if((s1.length:Int) !=(s2.length:Int))then
 (some false)
 else
 (bK s2 eq s1 0)

def qZ(a1:aa)(b:aa):Option Bool:=
  (iD a1.Kinds b.Kinds).bind fun r=>
  (if r then((iD a1.Keys b.Keys).bind fun r1=>
  some r1)else some false).bind fun t=>
  (if t then((gh a1.Order b.Order).bind fun r2=>
  some r2)else some false).bind fun t1=>
  (nH a1.Cond b.Cond).bind fun r3=>
  (if r3 then((cO a1.Aggs b.Aggs kP).bind fun r4=>
  some r4)else some false).bind fun t2=>
  (if t2 then((cv a1.Items b.Items nH).bind fun r5=>
  some r5)else some false).bind fun t3=>
  some ((((((((a1.Op==b.Op)&&(a1.A==b.A))&&(a1.B==b.B))&&(a1.Table==b.Table))&&(a1.Left==b.Left))&&(a1.Limit==b.Limit))&&t1)&&t3)

def q5(a1:aw)(b:aw):Option Bool:=
 (cX a1.Nodes b.Nodes qZ).bind fun r=>
 some r

def nr(p:aw):Option Bool:=
  (uC).bind fun r=>
  if(!r)then
  (some false)
  else
  ((u4 p).bind fun r1=>
  (ec r1).bind fun r2=>
  if(r2.2 !=(0:Int))then
  (some ((r2.1.Nodes.length:Int)==(0:Int)))
  else
  ((ec r2.1).bind fun r3=>
  (lU r2.1).bind fun r4=>
  (if(r3.2==(0:Int))then((q5 r2.1 r3.1).bind fun r5=>
  some r5)else some false).bind fun t=>
  (if(t&&(r4.2.2==(0:Int)))then((if(!(!r4.2.1))then((q5 r2.1 r1).bind fun r6=>
  some r6)else some true).bind fun t2=>
  some t2)else some false).bind fun t1=>
  some t1))

end Go.Proofs.YtbmmihfagmchaaaGreat

