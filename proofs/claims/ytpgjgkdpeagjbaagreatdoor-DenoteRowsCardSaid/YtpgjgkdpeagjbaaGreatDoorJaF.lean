/- eJ of this claim: F. -/
import Derived.Test.YtpgjgkdpeagjbaaGreatDoorJaD
import Derived.Test.YtpgjgkdpeagjbaaGreatDoorJaV4
set_option linter.all false
namespace Go.Proofs.YtpgjgkdpeagjbaaGreatDoor
open Go

def ie(f:(Int->Option Bool)):List Int->Nat->Option Int
 |[],i=>
  some (-1:Int)
 |e::tl,i=>
  (f e).bind fun r=>
  if r then
  (some (i:Int))
  else
  ((ie f tl) (i+1))

def ne(s:(List Int))(f:(Int->Option Bool)):Option Int:=
 ie f s 0

def dD(s:(List Int))(f:(Int->Option Bool)):Option Bool:=
 (ne s f).bind fun r=>
 some (decide ((0:Int)<=r))

def FT(k:Int):Option Bool:=
 some (((k==(1:Int))||(k==(2:Int)))||(k==(3:Int)))

def k6(k:Int):Option Bool:=
 (FT k).bind fun r=>
 some (!r)

def iv(c:aX)(n:aq):Option ((List Int)×Bool):=
  (if((((decide ((0:Int)<=n.Table))&&(decide (n.Table<(4:Int))))&&(decide ((1:Int)<=(n.Kinds.length:Int))))&&(decide ((n.Kinds.length:Int)<=(4:Int))))then((dD n.Kinds k6).bind fun r=>
  some (!r))else some false).bind fun t=>
  some (n.Kinds,t)

def oC(s:List Int):Option (List Int):=
 some s

def oD(n:Int):Option (List Int):=
  if(decide ((0:Int)<(IntKind.i64.wrap (n-(IntKind.i64.wrap ((0:Int)-(0:Int)))))))then
  ((gt0 (IntKind.i64.wrap (n-(IntKind.i64.wrap ((0:Int)-(0:Int)))))).bind fun _=>
  (qe (IntKind.i64.wrap (n-(IntKind.i64.wrap ((0:Int)-(0:Int))))) (0:Int)).bind fun mk=>
  (eS mk 0 (0:Int)).bind fun y=>
  oC y)
  else
  (oC ([]:List Int))

def nF(n:Int):Option (List Int):=
 if(decide (n<(0:Int)))then
 (none)
 else
 (oD n)

def kQ:List (List Int)->(List Int)->Option (List Int)
 |[],newslice=>
  some newslice
 |e1::tl1,newslice=>
  (app newslice e1).bind fun newslice1=>
  (kQ tl1) newslice1

def kR(slices:(List (List Int))):List (List Int)->Int->Option (List Int)
 |[],size=>
  (nF size).bind fun r=>
  kQ slices r
 |e::tl,size=>
  if(decide ((IntKind.i64.wrap (size+(e.length:Int)))<(0:Int)))then
  (none)
  else
  ((kR slices tl) (IntKind.i64.wrap (size+(e.length:Int))))

def ky(slices:(List (List Int))):Option (List Int):=
 kR slices slices (0:Int)

def r0(tag:Int):Option Int:=
  if((tag==(1:Int))||(tag==(2:Int)))then
  (some (0:Int))
  else
  (if((decide ((4:Int)<=tag))&&(decide (tag<=(7:Int))))then
  (some (1:Int))
  else
  (if((decide ((12:Int)<=tag))&&(decide (tag<=(23:Int))))then
  (some (2:Int))
  else
  (some (-1:Int))))

def mz(v1:ac):Option ac:=
 some v1

def sN(v2:ac):Option ac:=
 mz (ac.mk (0:Int) v2.N v2.U v2.S)

def sM(v:ac):Option ac:=
 sN (ac.mk v.Kind (0:Int) v.U v.S)

def sL(v3:ac):Option ac:=
 mz v3

def An(v:ac):Option ac:=
  if(v.Kind==(1:Int))then
  (if((v.N !=(0:Int))&&(v.N !=(1:Int)))then
  (mz v)
  else
  (sM v))
  else
  (if(v.Kind==(2:Int))then
  (sM v)
  else
  (if(v.Kind==(0:Int))then
  (sN v)
  else
  (if(v.Kind==(3:Int))then
  (if(decide ((v.S.length:Int)<=(40:Int)))then
  (sL (ac.mk (0:Int) v.N v.U ([])))
  else
  (sL v))
  else
  (if(v.Kind==(4:Int))then
  (mz (ac.mk (0:Int) (0:Int) (0:Int) v.S))
  else
  (mz v)))))

def mT(v:ac):Option Int:=
 (An v).bind fun r=>
 if(!decide (r=(⟨(0:Int),(0:Int),(0:Int),[]⟩:ac)))then
 (some (120:Int))
 else
 (some (0:Int))

def ou(v:ac):Option Bool:=
 (mT v).bind fun r=>
 some ((r==(0:Int))&&(v.Kind !=(4:Int)))

def xo(n:bZ):Option Bool:=
  if(n.Tag==(1:Int))then
  ((ou n.Value).bind fun r=>
  some (r&&(n.Col==(0:Int))))
  else
  (if(n.Tag==(2:Int))then
  (some (((decide (n.Value=(⟨(0:Int),(0:Int),(0:Int),[]⟩:ac)))&&(decide ((0:Int)<=n.Col)))&&(decide (n.Col<(16:Int)))))
  else
  (some ((decide (n.Value=(⟨(0:Int),(0:Int),(0:Int),[]⟩:ac)))&&(n.Col==(0:Int)))))

def n9(nx:Nat->(List Int)->(List Int)->Option ((List Int)×Bool))(i:Nat)(e1:bZ)(all:List Int)(open1:List Int)(r:Int):List Int->Nat->Int->(List Int)->Option ((List Int)×Bool)
  |[],i1,first,at1=>
    if(!decide (at1=([e1.L,e1.R])))then
    (some ([],false))
    else
    ((app all ([first])).bind fun all1=>
    (eS open1 0 (IntKind.i64.wrap ((open1.length:Int)-r))).bind fun y1=>
    (app y1 ([(i:Int)])).bind fun open2=>
    nx (i+1) all1 open2)
  |e2::tl1,i1,first,at1=>
    (di all e2).bind fun e3=>
    (di at1 (i1:Int)).bind fun e4=>
    (some (at1.set (i1:Int).toNat e2)).bind fun ar=>
    (n9 nx i e1 all open1 r tl1) (i1+1) (min first e3) ar

def mF:List bZ->Nat->(List Int)->(List Int)->Option ((List Int)×Bool)
  |[],i,all,open1=>
    some (all,(((open1.length:Int)==(1:Int))&&(decide ((all.length:Int)<=(1000:Int)))))
  |e1::tl,i,all,open1=>
    (r0 e1.Tag).bind fun r=>
    (if(!((decide (r<(0:Int)))||(decide ((open1.length:Int)<r))))then((xo e1).bind fun r1=>
    some (!r1))else some true).bind fun t=>
    if t then
    (some ([],false))
    else
    ((eS open1 (IntKind.i64.wrap ((open1.length:Int)-r)) (open1.length:Int)).bind fun y=>
    n9 (mF tl) i e1 all open1 r y 0 (i:Int) ([(-1:Int),(-1:Int)]))

def AW(e:cy):Option ((List Int)×Bool):=
 mF e.Nodes 0 ([]:List Int) ([]:List Int)

def uc(e:cy):Option Int:=
 (AW e).bind fun r=>
 if(!r.2)then
 (some (200:Int))
 else
 (some (0:Int))

def fI(i:Nat)(y:List Int):Nat->Nat->(List Int)->Int->Option (List Int)
  |0,i1,s1,k=>
    (eS s1 k (s1.length:Int)).bind fun y1=>
    (some (s1.take k.toNat++List.replicate y1.length (0:Int))).bind fun cl=>
    (eS cl 0 k).bind fun y2=>
    some y2
  |k2+1,i1,s1,k=>
    (AO s1 (i:Int) y.length (i1:Int)).bind fun e3=>
    (AO s1 (i:Int) y.length (IntKind.i64.wrap ((i1:Int)-(1:Int)))).bind fun e4=>
    if(e3 !=e4)then
    ((AO s1 (i:Int) y.length (i1:Int)).bind fun e5=>
    (di s1 k).bind fun e6=>
    (some (s1.set k.toNat e5)).bind fun st=>
    (fI i y k2) (i1+1) st (IntKind.i64.wrap (k+(1:Int))))
    else
    ((fI i y k2) (i1+1) s1 k)

def gz(s:(List Int)):List Int->Nat->Option (List Int)
  |[],i=>
    some s
  |e::tl,i=>
    (di s (IntKind.i64.wrap ((i:Int)-(1:Int)))).bind fun e1=>
    if(e==e1)then
    ((eS s (i:Int) (s.length:Int)).bind fun y=>
    fI i y (y.length-1) 1 s (i:Int))
    else
    ((gz s tl) (i+1))

def lV(s:(List Int)):Option (List Int):=
 if(decide ((s.length:Int)<(2:Int)))then
 (some s)
 else
 (gz s (s.drop (1)) 1)

def oU:List bZ->(List Int)->Option (List Int)
  |[],out=>
    (Hc out).bind fun u9=>
    (lV u9).bind fun r1=>
    some r1
  |e1::tl,out=>
    if(e1.Tag==(2:Int))then
    ((app out ([e1.Col])).bind fun out1=>
    (oU tl) out1)
    else
    ((oU tl) out)

def vW(e:cy):Option (List Int):=
 (uc e).bind fun r=>
 if(r !=(0:Int))then
 (some ([]:List Int))
 else
 (oU e.Nodes ([]:List Int))

def dw(s:(List Int)):Option (List Int):=
 (app ([]:List Int) s).bind fun x=>
 some x

def rF(stack:(List Int))(k:Int):Option ((List Int)×(List Int)):=
 (eS stack (IntKind.i64.wrap ((stack.length:Int)-k)) (stack.length:Int)).bind fun y=>
 (dw y).bind fun r=>
 (eS stack 0 (IntKind.i64.wrap ((stack.length:Int)-k))).bind fun y1=>
 some (r,y1)

def n8(bad:Int)(stack:List Int):Option (Int×Int):=
  if(bad !=(0:Int))then
  (some ((0:Int),bad))
  else
  ((di stack (0:Int)).bind fun e1=>
  some (e1,(0:Int)))

def jC(do1:(bZ->(List Int)->Option (Int×Int))):List bZ->Int->(List Int)->Option (Int×Int)
  |[],bad1,stack1=>
    n8 bad1 stack1
  |e2::tl,bad1,stack1=>
    (r0 e2.Tag).bind fun r=>
    (rF stack1 r).bind fun r1=>
    (do1 e2 r1.1).bind fun r2=>
    if(r2.2 !=(0:Int))then
    (n8 r2.2 r1.2)
    else
    ((app r1.2 ([r2.1])).bind fun l2=>
    (jC do1 tl) bad1 l2)

def rp(e:cy)(do1:(bZ->(List Int)->Option (Int×Int))):Option (Int×Int):=
 jC do1 e.Nodes (0:Int) ([]:List Int)

def zM(tag:Int):Option Bool:=
 some ((tag==(4:Int))||((decide ((12:Int)<=tag))&&(decide (tag<=(15:Int)))))

def oa(kinds:(List Int))(n:bZ):List Int->Int->Option (Int×Int)
  |[],own=>
    if(n.Tag==(1:Int))then
    (some (n.Value.Kind,(0:Int)))
    else
    (if(n.Tag==(2:Int))then
    ((di kinds n.Col).bind fun e1=>
    some (e1,(0:Int)))
    else
    ((zM n.Tag).bind fun r=>
    if r then
    (if((own==(-1:Int))||((own !=(0:Int))&&(own !=(2:Int))))then
    (some ((0:Int),(201:Int)))
    else
    (some ((2:Int),(0:Int))))
    else
    (if(((n.Tag==(5:Int))||(n.Tag==(22:Int)))||(n.Tag==(23:Int)))then
    (if((own==(-1:Int))||((own !=(0:Int))&&(own !=(1:Int))))then
    (some ((0:Int),(201:Int)))
    else
    (some ((1:Int),(0:Int))))
    else
    (if((own==(-1:Int))||((own !=(0:Int))&&(own !=own)))then
    (some ((0:Int),(201:Int)))
    else
    (some ((1:Int),(0:Int)))))))
  |e::tl,own=>
    if((e==(0:Int))||(e==own))then
    ((oa kinds n tl) own)
    else
    (if(own==(0:Int))then
    ((oa kinds n tl) e)
    else
    ((oa kinds n tl) (-1:Int)))

def lb(kinds:(List Int))(n:bZ)(l:(List Int)):Option (Int×Int):=
 oa kinds n l (0:Int)

def oT(e:cy)(kinds:(List Int)):List Int->Option (Int×Int)
 |[]=>
  (rp e (lb kinds)).bind fun r2=>
  some (r2.1,r2.2)
 |e2::tl1=>
  if(decide ((kinds.length:Int)<=e2))then
  (some ((0:Int),(2:Int)))
  else
  ((oT e kinds tl1))

def td(e:cy)(kinds:(List Int)):List Int->Option (Int×Int)
 |[]=>
  (vW e).bind fun r1=>
  oT e kinds r1
 |e1::tl=>
  if((decide (e1<(0:Int)))||(decide ((3:Int)<e1)))then
  (some ((0:Int),(2:Int)))
  else
  ((td e kinds tl))

def vU(e:cy)(kinds:(List Int)):Option (Int×Int):=
 (uc e).bind fun r=>
 if(r !=(0:Int))then
 (some ((0:Int),r))
 else
 (td e kinds kinds)

def uN(e:cy)(kinds:(List Int)):Option Bool:=
 (vU e kinds).bind fun r=>
 some ((r.2==(0:Int))&&((r.1==(1:Int))||(r.1==(0:Int))))

def jn(c:aX)(n:aq):Option ((List Int)×Bool):=
 (di c.kinds n.A).bind fun e=>
 (di c.kinds n.B).bind fun e1=>
 (ky ([e,e1])).bind fun r=>
 (uN n.Cond r).bind fun r1=>
 some (r,r1)

def iw(c:aX)(n:aq):Option ((List Int)×Bool):=
 (di c.kinds n.A).bind fun e=>
 (uN n.Cond e).bind fun r=>
 some (e,r)

def s4(kinds:(List Int))(c:Int):Option Bool:=
 some ((decide (c<(0:Int)))||(decide ((kinds.length:Int)<=c)))

def vB(l:(List Int))(kinds:(List Int)):Option Bool:=
 (dD l (s4 kinds)).bind fun r=>
 some (!r)

def vD(r:Int×Int)(x:Bool):Option (Int×Bool):=
 if x then
 (some (r.1,(r.2==(0:Int))))
 else
 (some ((0:Int),false))

def Bn(a1:jt)(kinds:(List Int)):Option (Int×Bool):=
  if(a1.Tag==(1:Int))then
  (some ((2:Int),((a1.Arg.Nodes.length:Int)==(0:Int))))
  else
  ((vU a1.Arg kinds).bind fun r=>
  if(a1.Tag==(2:Int))then
  (some ((2:Int),(r.2==(0:Int))))
  else
  (if(a1.Tag==(3:Int))then
  (some ((2:Int),((r.2==(0:Int))&&((r.1==(2:Int))||(r.1==(0:Int))))))
  else
  (if(a1.Tag==(4:Int))then
  (vD r (a1.Tag==(4:Int)))
  else
  (vD r (a1.Tag==(5:Int))))))

def gH(e:(List Int)):List jt->(List Int)->Bool->Option ((List Int)×Bool)
 |[],out1,ok=>
  some (out1,ok)
 |e2::tl1,out1,ok=>
  (Bn e2 e).bind fun r1=>
  (app out1 ([r1.1])).bind fun out2=>
  (gH e tl1) out2 (ok&&r1.2)

def iL(n:aq)(e:(List Int))(t:Bool):List Int->(List Int)->Option ((List Int)×Bool)
 |[],out=>
  gH e n.Aggs out t
 |e1::tl,out=>
  (di e e1).bind fun e3=>
  (app out ([e3])).bind fun out3=>
  (iL n e t tl) out3

def iW(c:aX)(n:aq):Option ((List Int)×Bool):=
  (di c.kinds n.A).bind fun e=>
  (if(((decide ((n.Keys.length:Int)<=(3:Int)))&&(decide ((n.Aggs.length:Int)<=(12:Int))))&&(decide ((0:Int)<(IntKind.i64.wrap ((n.Keys.length:Int)+(n.Aggs.length:Int))))))then((vB n.Keys e).bind fun r=>
  some r)else some false).bind fun t=>
  if(!t)then
  (some ([],false))
  else
  (iL n e t n.Keys ([]:List Int))

def gZ(c:aX)(n:aq):List cy->(List Int)->Bool->Option ((List Int)×Bool)
 |[],out,ok=>
  some (out,ok)
 |e::tl,out,ok=>
  (di c.kinds n.A).bind fun e1=>
  (vU e e1).bind fun r=>
  (app out ([r.1])).bind fun out1=>
  (gZ c n tl) out1 (ok&&(r.2==(0:Int)))

def hY(c:aX)(n:aq):Option ((List Int)×Bool):=
 gZ c n n.Items ([]:List Int) ((decide ((1:Int)<=(n.Items.length:Int)))&&(decide ((n.Items.length:Int)<=(16:Int))))

def gI(c:aX)(n:aq):Option ((List Int)×Bool):=
 (di c.kinds n.A).bind fun e=>
 some (e,true)

def jW(nx:Nat->(List Int)->Bool->Option ((List Int)×Bool))(i:Nat)(e2:Int)(ok:Bool)(out1:List Int):Option ((List Int)×Bool):=
  (if ok then((di out1 (i:Int)).bind fun e3=>
  some ((e3==e2)||(e2==(0:Int))))else some false).bind fun t=>
  nx (i+1) out1 t

def fb:List Int->Nat->(List Int)->Bool->Option ((List Int)×Bool)
  |[],i,out,ok=>
    some (out,ok)
  |e2::tl,i,out,ok=>
    (di out (i:Int)).bind fun e4=>
    if(e4==(0:Int))then
    ((some (out.set (i:Int).toNat e2)).bind fun st=>
    jW (fb tl) i e2 ok st)
    else
    (jW (fb tl) i e2 ok out)

def iT(c:aX)(n:aq):Option ((List Int)×Bool):=
  (di c.kinds n.A).bind fun e=>
  (di c.kinds n.B).bind fun e1=>
  if((e.length:Int) !=(e1.length:Int))then
  (some ([],false))
  else
  ((dw e).bind fun r=>
  fb e1 0 r true)

def mG(in1:(List Int))(o:jG):Option Bool:=
 some ((decide (o.Col<(0:Int)))||(decide ((in1.length:Int)<=o.Col)))

def fg(f:(jG->Option Bool)):List jG->Nat->Option Int
 |[],i=>
  some (-1:Int)
 |e::tl,i=>
  (f e).bind fun r=>
  if r then
  (some (i:Int))
  else
  ((fg f tl) (i+1))

def jK(s:(List jG))(f:(jG->Option Bool)):Option Int:=
 fg f s 0

def gr(s:(List jG))(f:(jG->Option Bool)):Option Bool:=
 (jK s f).bind fun r=>
 some (decide ((0:Int)<=r))

def iU(c:aX)(n:aq):Option ((List Int)×Bool):=
  (di c.kinds n.A).bind fun e=>
  (if(decide ((n.Order.length:Int)<=(3:Int)))then((gr n.Order (mG e)).bind fun r=>
  some (!r))else some false).bind fun t=>
  some (e,(((t&&(decide ((-1:Int)<=n.Limit)))&&(decide (n.Limit<=(2147483647:Int))))&&((c.kinds.length:Int)==(IntKind.i64.wrap ((c.Logic.Nodes.length:Int)-(1:Int))))))

def wt(n:aq):Option Bool:=
 some (((((((((n.Table==(0:Int))&&((n.Kinds.length:Int)==(0:Int)))&&(!n.Left))&&((n.Cond.Nodes.length:Int)==(0:Int)))&&((n.Keys.length:Int)==(0:Int)))&&((n.Aggs.length:Int)==(0:Int)))&&((n.Items.length:Int)==(0:Int)))&&((n.Order.length:Int)==(0:Int)))&&(n.Limit==(0:Int)))

def wu(n:aq):Option aq:=
  if(n.Op==(1:Int))then
  (some (aq.mk n.Op n.A n.B (0:Int) ([]) n.Left n.Cond n.Keys n.Aggs n.Items n.Order n.Limit))
  else
  (if(n.Op==(2:Int))then
  (some (aq.mk n.Op n.A n.B n.Table n.Kinds false (⟨[]⟩:cy) n.Keys n.Aggs n.Items n.Order n.Limit))
  else
  (if(n.Op==(3:Int))then
  (some (aq.mk n.Op n.A n.B n.Table n.Kinds n.Left (⟨[]⟩:cy) n.Keys n.Aggs n.Items n.Order n.Limit))
  else
  (if(n.Op==(4:Int))then
  (some (aq.mk n.Op n.A n.B n.Table n.Kinds n.Left n.Cond ([]) ([]) n.Items n.Order n.Limit))
  else
  (if(n.Op==(5:Int))then
  (some (aq.mk n.Op n.A n.B n.Table n.Kinds n.Left n.Cond n.Keys n.Aggs ([]) n.Order n.Limit))
  else
  (if(n.Op==(8:Int))then
  (some (aq.mk n.Op n.A n.B n.Table n.Kinds n.Left n.Cond n.Keys n.Aggs n.Items ([]) (0:Int)))
  else
  (some n))))))

def s5(x:Bool):Option Int:=
 if x then
 (some (2:Int))
 else
 (some (1:Int))

def xf(op:Int):Option Int:=
  if(op==(1:Int))then
  (some (0:Int))
  else
  (if(op==(2:Int))then
  (s5 (op==(2:Int)))
  else
  (s5 (op==(7:Int))))

def lN(c:aX)(i:Int):Option (Int×Bool):=
  (di c.Logic.Nodes i).bind fun e=>
  (xf e.Op).bind fun r=>
  if(r==(0:Int))then
  (some (i,((e.A==(-1:Int))&&(e.B==(-1:Int)))))
  else
  (if(r==(1:Int))then
  (if(((e.A !=(IntKind.i64.wrap (i-(1:Int))))||(e.B !=(-1:Int)))||(i==(0:Int)))then
  (some ((0:Int),false))
  else
  ((di c.first e.A).bind fun e1=>
  some (e1,true)))
  else
  ((if(!((e.B !=(IntKind.i64.wrap (i-(1:Int))))||(i==(0:Int))))then((di c.first e.B).bind fun e2=>
  some (e.A !=(IntKind.i64.wrap (e2-(1:Int)))))else some true).bind fun t=>
  if(t||(decide (e.A<(0:Int))))then
  (some ((0:Int),false))
  else
  ((di c.first e.A).bind fun e3=>
  some (e3,true))))

def iM{Sg:Type}(yld:(Int×Bool)->Sg->Option (Bool×Sg))(nx:Nat->Sg->aX->Option (Sg×aX))(i:Nat)(s1:Sg)(ok1:Bool)(kinds:(List Int))(ob2:aX):Option (Sg×aX):=
 (app ob2.kinds ([kinds])).bind fun l6=>
 (yld ((i:Int),(ok1&&(decide ((kinds.length:Int)<=(16:Int))))) s1).bind fun r2=>
 if((!r2.1)||(!(ok1&&(decide ((kinds.length:Int)<=(16:Int))))))then
 (some (r2.2,({ob2 with kinds:=l6}:aX)))
 else
 (nx (i+1) r2.2 ({ob2 with kinds:=l6}:aX))

def fP{Sg:Type}(yld:(Int×Bool)->Sg->Option (Bool×Sg))(nx:Nat->Sg->aX->Option (Sg×aX))(i:Nat)(e2:aq)(s1:Sg)(ok:Bool)(ob1:aX):Option (Sg×aX):=
  if ok then
  ((((rm (eO (eO (eO (eO (eO (eO (eO (eO ([]:List (Int×(aX->aq->Option (((List Int)×Bool)×aX)))) (1:Int) (fun(mc:aX) (mx:aq)=>(iv mc mx).map fun mr=>(mr,mc))) (2:Int) (fun(mc:aX) (mx:aq)=>(jn mc mx).map fun mr=>(mr,mc))) (3:Int) (fun(mc:aX) (mx:aq)=>(iw mc mx).map fun mr=>(mr,mc))) (4:Int) (fun(mc:aX) (mx:aq)=>(iW mc mx).map fun mr=>(mr,mc))) (5:Int) (fun(mc:aX) (mx:aq)=>(hY mc mx).map fun mr=>(mr,mc))) (6:Int) (fun(mc:aX) (mx:aq)=>(gI mc mx).map fun mr=>(mr,mc))) (7:Int) (fun(mc:aX) (mx:aq)=>(iT mc mx).map fun mr=>(mr,mc))) (8:Int) (fun(mc:aX) (mx:aq)=>(iU mc mx).map fun mr=>(mr,mc))) e2.Op).getD (fun _ _=>none)) ob1 (e2)).bind fun r3=>
  iM yld nx i s1 r3.1.2 r3.1.1 r3.2)
  else
  (iM yld nx i s1 ok ([]) ob1)

def cq{Sg:Type}(yld:(Int×Bool)->Sg->Option (Bool×Sg)):List aq->Nat->Sg->aX->Option (Sg×aX)
  |[],i,s1,ob=>
    some (s1,ob)
  |e2::tl,i,s1,ob=>
    (if((rm (eO (eO (eO (eO (eO (eO (eO (eO ([]:List (Int×(aX->aq->Option (((List Int)×Bool)×aX)))) (1:Int) (fun(mc:aX) (mx:aq)=>(iv mc mx).map fun mr=>(mr,mc))) (2:Int) (fun(mc:aX) (mx:aq)=>(jn mc mx).map fun mr=>(mr,mc))) (3:Int) (fun(mc:aX) (mx:aq)=>(iw mc mx).map fun mr=>(mr,mc))) (4:Int) (fun(mc:aX) (mx:aq)=>(iW mc mx).map fun mr=>(mr,mc))) (5:Int) (fun(mc:aX) (mx:aq)=>(hY mc mx).map fun mr=>(mr,mc))) (6:Int) (fun(mc:aX) (mx:aq)=>(gI mc mx).map fun mr=>(mr,mc))) (7:Int) (fun(mc:aX) (mx:aq)=>(iT mc mx).map fun mr=>(mr,mc))) (8:Int) (fun(mc:aX) (mx:aq)=>(iU mc mx).map fun mr=>(mr,mc))) e2.Op).isSome)then((wu e2).bind fun r=>
    (wt r).bind fun r1=>
    some r1)else some false).bind fun t=>
    if t then
    ((lN ob (i:Int)).bind fun r4=>
    (app ob.first ([r4.1])).bind fun l7=>
    fP yld (cq yld tl) i e2 s1 r4.2 ({ob with first:=l7}:aX))
    else
    (fP yld (cq yld tl) i e2 s1 t ob)

def nG{Sg:Type}(c:aX)(yld:(Int×Bool)->Sg->Option (Bool×Sg))(s:Sg):Option (Sg×aX):=
 cq yld c.Logic.Nodes 0 s c

def s6(c:aX):Option (ItX (Int×Bool) aX):=
 some (fun _=>nG c)

def rn(x:Int×Bool)(x1:Bool)(x2:Int)(p:Bool):Option (Option Nat×(Bool×Int×Bool)):=
 if(!x.2)then
 (some (some 0,(false,x.1,true)))
 else
 (some (none,(x1,x2,p)))

def rX(l:cC):Option (aX×Int×Bool):=
  if((decide ((l.Nodes.length:Int)<(1:Int)))||(decide ((60:Int)<(l.Nodes.length:Int))))then
  (some ((⟨l,[],[]⟩:aX),(0:Int),false))
  else
  ((s6 (⟨l,[],[]⟩:aX)).bind fun it=>
  (it (Option Nat×(Bool×Int×Bool)) (zN (fun x s=>rn x s.1 s.2.1 s.2.2)) (none,(false,(0:Int),false))).bind fun r=>
  if r.1.1.isNone then
  ((di r.2.first (IntKind.i64.wrap ((l.Nodes.length:Int)-(1:Int)))).bind fun e=>
  some (r.2,(IntKind.i64.wrap ((l.Nodes.length:Int)-(1:Int))),(e==(0:Int))))
  else
  ((isT r.1.2.2.2).bind fun _=>
  some (r.2,r.1.2.2.1,r.1.2.1)))

def uP(l:cC):Option (Int×Int):=
 (rX l).bind fun r=>
 if(!r.2.2)then
 (some (r.2.1,(230:Int)))
 else
 (some ((0:Int),(0:Int)))

def od(kinds:(List Int))(nx:Option Bool):List ac->Nat->Option Bool
  |[],i1=>
    nx
  |e1::tl1,i1=>
    (mT e1).bind fun r=>
    (if(!(r !=(0:Int)))then((if(e1.Kind !=(0:Int))then((di kinds (i1:Int)).bind fun e2=>
    some (e1.Kind !=e2))else some false).bind fun t1=>
    some t1)else some true).bind fun t=>
    if t then
    (some false)
    else
    ((od kinds nx tl1) (i1+1))

def oe(kinds:(List Int)):List (List ac)->Option Bool
 |[]=>
  some true
 |e::tl=>
  if((e.length:Int) !=(kinds.length:Int))then
  (some false)
  else
  (od kinds (oe kinds tl) e 0)

def uT(rows:(List (List ac)))(kinds:(List Int)):Option Bool:=
 if(decide ((12:Int)<(rows.length:Int)))then
 (some false)
 else
 (oe kinds rows)

def qz(b:dg):List aq->Option Bool
  |[]=>
    some true
  |e::tl=>
    (if(e.Op==(1:Int))then((if(!(decide ((b.Tables.length:Int)<=e.Table)))then((di b.Tables e.Table).bind fun e1=>
    (uT e1 e.Kinds).bind fun r1=>
    some (!r1))else some true).bind fun t1=>
    some t1)else some false).bind fun t=>
    if t then
    (some false)
    else
    ((qz b tl))

def qA(l:cC)(b:dg):Option Bool:=
 (uP l).bind fun r=>
 if(r.2 !=(0:Int))then
 (some false)
 else
 (qz b l.Nodes)

def mO(r:fy)(n:aq):Option ((List (List ac))×Int):=
 (di r.Base.Tables n.Table).bind fun e=>
 some (e,(0:Int))

def jL(s:List ac):Option (List ac):=
 some s

def jM(n:Int):Option (List ac):=
  if(decide ((0:Int)<(IntKind.i64.wrap (n-(IntKind.i64.wrap ((0:Int)-(0:Int)))))))then
  ((gt0 (IntKind.i64.wrap (n-(IntKind.i64.wrap ((0:Int)-(0:Int)))))).bind fun _=>
  (qe (IntKind.i64.wrap (n-(IntKind.i64.wrap ((0:Int)-(0:Int))))) (⟨(0:Int),(0:Int),(0:Int),[]⟩:ac)).bind fun mk=>
  (eS mk 0 (0:Int)).bind fun y=>
  jL y)
  else
  (jL ([]:List ac))

def i8(n:Int):Option (List ac):=
 if(decide (n<(0:Int)))then
 (none)
 else
 (jM n)

def gC:List (List ac)->(List ac)->Option (List ac)
 |[],newslice=>
  some newslice
 |e1::tl1,newslice=>
  (app newslice e1).bind fun newslice1=>
  (gC tl1) newslice1

def gD(slices:(List (List ac))):List (List ac)->Int->Option (List ac)
 |[],size=>
  (i8 size).bind fun r=>
  gC slices r
 |e::tl,size=>
  if(decide ((IntKind.i64.wrap (size+(e.length:Int)))<(0:Int)))then
  (none)
  else
  ((gD slices tl) (IntKind.i64.wrap (size+(e.length:Int))))

def eW(slices:(List (List ac))):Option (List ac):=
 gD slices slices (0:Int)

def il{Sg:Type}(yld:(Int×(List ac))->Sg->Option (Bool×Sg))(nx:Nat->Sg->Option Sg)(i:Nat)(e2:(List ac)):List (List ac)->Sg->Option Sg
 |[],s2=>
  nx (i+1) s2
 |e4::tl1,s2=>
  (eW ([e2,e4])).bind fun r=>
  (yld ((i:Int),r) s2).bind fun r1=>
  if(!r1.1)then
  (some r1.2)
  else
  ((il yld nx i e2 tl1) r1.2)

def fk{Sg:Type}(b:(List (List ac)))(yld:(Int×(List ac))->Sg->Option (Bool×Sg)):List (List ac)->Nat->Sg->Option Sg
 |[],i,s1=>
  some s1
 |e2::tl,i,s1=>
  il yld (fk b yld tl) i e2 b s1

def oc{Sg:Type}(a1:(List (List ac)))(b:(List (List ac)))(yld:(Int×(List ac))->Sg->Option (Bool×Sg))(s:Sg):Option Sg:=
 fk b yld a1 0 s

def zu(a1:(List (List ac)))(b:(List (List ac))):Option (It (Int×(List ac))):=
 some (fun _=>oc a1 b)

def nq(do1:(ac->ac->Option (ac×Int)))(a1:ac)(b:ac):Option (ac×Int):=
 (do1 b a1).bind fun r=>
 some (r.1,r.2)

def FY(do1:(ac->ac->Option (ac×Int))):Option (ac->ac->Option (ac×Int)):=
 some (nq do1)

def xx(v:ac):Option ac:=
 some v

def rN(b:Bool):Option ac:=
 if b then
 (xx (ac.mk (⟨(1:Int),(0:Int),(0:Int),[]⟩:ac).Kind (1:Int) (⟨(1:Int),(0:Int),(0:Int),[]⟩:ac).U (⟨(1:Int),(0:Int),(0:Int),[]⟩:ac).S))
 else
 (xx (⟨(1:Int),(0:Int),(0:Int),[]⟩:ac))

def rM:Option ac:=
 some (⟨(0:Int),(0:Int),(0:Int),[]⟩:ac)

def kV:List ac->Option Int
 |[]=>
  some (0:Int)
 |e::tl=>
  (mT e).bind fun r=>
  if(r !=(0:Int))then
  (some r)
  else
  ((kV tl))

def se(l:(List ac)):Option Int:=
 kV l

def iC:List Int->Option Int
 |[]=>
  some (0:Int)
 |e::tl=>
  if(e !=(0:Int))then
  (some e)
  else
  ((iC tl))

def oX(vals:(List Int)):Option Int:=
 iC vals

def pN(p:Int):Option Bool:=
 some (p !=p)

def kj(p:Int)(y:Int):Option Int:=
  (pN p).bind fun r=>
  (pN y).bind fun r1=>
  if r then
  (if r1 then
  (some (0:Int))
  else
  (some (-1:Int)))
  else
  (if r1 then
  (some (1:Int))
  else
  (if(decide (p<y))then
  (some (-1:Int))
  else
  (if(decide (y<p))then
  (some (1:Int))
  else
  (some (0:Int)))))

def mP(p:Int):Option Bool:=
 some (p !=p)

def i9(p:Int)(y:Int):Option Int:=
  (mP p).bind fun r=>
  (mP y).bind fun r1=>
  if r then
  (if r1 then
  (some (0:Int))
  else
  (some (-1:Int)))
  else
  (if r1 then
  (some (1:Int))
  else
  (if(decide (p<y))then
  (some (-1:Int))
  else
  (if(decide (y<p))then
  (some (1:Int))
  else
  (some (0:Int)))))

def kG(a1:C0)(b:C0):Option Int:=
 some (ZB a1 b)

def rC(a1:C0)(b:C0):Option Int:=
 (kG a1 b).bind fun r=>
 some r

def nd(a1:ac)(b:ac):Option Int:=
  (ou a1).bind fun r=>
  (if(!(!r))then((ou b).bind fun r1=>
  some (!r1))else some true).bind fun t=>
  if t then
  (some (0:Int))
  else
  ((kj a1.Kind b.Kind).bind fun r2=>
  (i9 a1.N b.N).bind fun r3=>
  (rC a1.S b.S).bind fun r4=>
  (oX ([r2,r3,r4])).bind fun r5=>
  some r5)

def tF(a1:ac)(b:ac)(is1:(Int->Option Bool)):Option (ac×Int):=
  (se ([a1,b])).bind fun r=>
  if(r !=(0:Int))then
  (some ((⟨(0:Int),(0:Int),(0:Int),[]⟩:ac),r))
  else
  (if(((a1.Kind==(4:Int))||(b.Kind==(4:Int)))||((!((a1.Kind==(0:Int))||(b.Kind==(0:Int))))&&(a1.Kind !=b.Kind)))then
  (some ((⟨(0:Int),(0:Int),(0:Int),[]⟩:ac),(2:Int)))
  else
  (if((a1.Kind==(0:Int))||(b.Kind==(0:Int)))then
  ((rM).bind fun r1=>
  some (r1,(0:Int)))
  else
  ((nd a1 b).bind fun r2=>
  (is1 r2).bind fun r3=>
  (rN r3).bind fun r4=>
  some (r4,(0:Int)))))

def Dv(c:Int):Option Bool:=
 some (decide (c<(0:Int)))

def qg(a1:ac)(b:ac):Option (ac×Int):=
 (tF a1 b Dv).bind fun r=>
 some (r.1,r.2)

def oS(do1:(ac->Option (ac×Int)))(a1:ac)(x:ac):Option (ac×Int):=
 (do1 a1).bind fun r=>
 some (r.1,r.2)

def CY(do1:(ac->Option (ac×Int))):Option (ac->ac->Option (ac×Int)):=
 some (oS do1)

def qE(n:Int):Option ac:=
 some (⟨(2:Int),n,(0:Int),[]⟩:ac)

def lY(kind:Int):List ac->Int->Option Int
  |[],e=>
    some e
  |e1::tl,e=>
    (mT e1).bind fun r=>
    if(r !=(0:Int))then
    (some (120:Int))
    else
    (if((e1.Kind !=(0:Int))&&(e1.Kind !=kind))then
    ((lY kind tl) (2:Int))
    else
    ((lY kind tl) e))

def sy(kind:Int)(l:(List ac)):Option Int:=
 lY kind l (0:Int)

def uU(a1:ac)(b:ac)(to1:(Int->Int->Option (Int×Bool))):Option (ac×Int):=
  (sy (2:Int) ([a1,b])).bind fun r=>
  if(r !=(0:Int))then
  (some ((⟨(0:Int),(0:Int),(0:Int),[]⟩:ac),r))
  else
  (if((a1.Kind==(0:Int))||(b.Kind==(0:Int)))then
  ((rM).bind fun r1=>
  some (r1,(0:Int)))
  else
  ((to1 a1.N b.N).bind fun r2=>
  if(!r2.2)then
  (some ((⟨(0:Int),(0:Int),(0:Int),[]⟩:ac),(140:Int)))
  else
  ((qE r2.1).bind fun r3=>
  some (r3,(0:Int)))))

def sC(a1:Int)(b:Int):Option (Int×Bool):=
 some ((IntKind.i64.wrap (a1-b)),decide ((0:Int)<=(fx .and .i64 (fx .xor .i64 a1 b) (fx .xor .i64 a1 (IntKind.i64.wrap (a1-b))))))

def yA(a1:ac)(b:ac):Option (ac×Int):=
 (uU a1 b sC).bind fun r=>
 some (r.1,r.2)

def Bw(a1:ac):Option (ac×Int):=
 (qE (0:Int)).bind fun r=>
 (yA r a1).bind fun r1=>
 some (r1.1,r1.2)

def Am(v:ac):Option Int:=
 if(v.Kind==(0:Int))then
 (some (1:Int))
 else
 (some (IntKind.i64.wrap ((2:Int)*v.N)))

def nJ(to1:((List Int)->Option Int)):List ac->(List Int)->ac->Option (ac×Int)
  |[],n,x=>
    (to1 n).bind fun r1=>
    (di gv0 r1).bind fun e1=>
    some (e1,(0:Int))
  |e::tl,n,x=>
    if(decide ((1:Int)<e.Kind))then
    (some ((⟨(0:Int),(0:Int),(0:Int),[]⟩:ac),(2:Int)))
    else
    ((Am e).bind fun r2=>
    (app n ([r2])).bind fun n1=>
    (nJ to1 tl) n1 x)

def qf(to1:((List Int)->Option Int))(l:(List ac)):Option (ac×Int):=
 (se l).bind fun r=>
 if(r !=(0:Int))then
 (some ((⟨(0:Int),(0:Int),(0:Int),[]⟩:ac),r))
 else
 (nJ to1 l ([]:List Int) (⟨(0:Int),(0:Int),(0:Int),[]⟩:ac))

def FG(l:(List Int)):Option Int:=
 (di l (0:Int)).bind fun e=>
 some (IntKind.i64.wrap ((2:Int)-e))

def tG(a1:ac):Option (ac×Int):=
 (qf FG ([a1])).bind fun r=>
 some (r.1,r.2)

def qt(is1:Bool)(a1:ac)(x:ac):Option (ac×Int):=
 (rN ((a1.Kind==(0:Int))==is1)).bind fun r=>
 some (r,(0:Int))

def E6(is1:Bool):Option (ac->ac->Option (ac×Int)):=
 some (qt is1)

def uV(a1:Int)(b:Int):Option (Int×Bool):=
 some ((IntKind.i64.wrap (a1+b)),decide ((0:Int)<=(fx .and .i64 (fx .xor .i64 a1 (IntKind.i64.wrap (a1+b))) (fx .xor .i64 b (IntKind.i64.wrap (a1+b))))))

def Fl(a1:ac)(b:ac):Option (ac×Int):=
 (uU a1 b uV).bind fun r=>
 some (r.1,r.2)

def ph(p:Int)(y:Int):Option (Int×Int):=
 some ((IntKind.u64.wrap ((IntKind.u64.wrap ((IntKind.u64.wrap (((p).fdiv (2^(min (Int.toNat (32:Int)) IntKind.u64.bits)))*((y).fdiv (2^(min (Int.toNat (32:Int)) IntKind.u64.bits)))))+(((IntKind.u64.wrap ((IntKind.u64.wrap (((p).fdiv (2^(min (Int.toNat (32:Int)) IntKind.u64.bits)))*(fx .and .u64 y (4294967295:Int))))+(((IntKind.u64.wrap ((fx .and .u64 p (4294967295:Int))*(fx .and .u64 y (4294967295:Int))))).fdiv (2^(min (Int.toNat (32:Int)) IntKind.u64.bits)))))).fdiv (2^(min (Int.toNat (32:Int)) IntKind.u64.bits)))))+(((IntKind.u64.wrap ((fx .and .u64 (IntKind.u64.wrap ((IntKind.u64.wrap (((p).fdiv (2^(min (Int.toNat (32:Int)) IntKind.u64.bits)))*(fx .and .u64 y (4294967295:Int))))+(((IntKind.u64.wrap ((fx .and .u64 p (4294967295:Int))*(fx .and .u64 y (4294967295:Int))))).fdiv (2^(min (Int.toNat (32:Int)) IntKind.u64.bits))))) (4294967295:Int))+(IntKind.u64.wrap ((fx .and .u64 p (4294967295:Int))*((y).fdiv (2^(min (Int.toNat (32:Int)) IntKind.u64.bits)))))))).fdiv (2^(min (Int.toNat (32:Int)) IntKind.u64.bits))))),(IntKind.u64.wrap (p*y)))

def sb(n:Int):Option Int:=
 if(decide (n<(0:Int)))then
 (some (IntKind.u64.wrap (0-(IntKind.u64.wrap n))))
 else
 (some (IntKind.u64.wrap n))

def o0(u:Int)(below:Bool):Option (Int×Bool):=
 if below then
 (some ((IntKind.i64.wrap (IntKind.u64.wrap (0-u))),decide (u<=(9223372036854775808:Int))))
 else
 (some ((IntKind.i64.wrap u),decide (u<=(9223372036854775807:Int))))

def oz(a1:Int)(b:Int):Option (Int×Bool):=
 (sb a1).bind fun r=>
 (sb b).bind fun r1=>
 (ph r r1).bind fun r2=>
 (o0 r2.2 ((decide (a1<(0:Int))) !=(decide (b<(0:Int))))).bind fun r3=>
 some (r3.1,(r3.2&&(r2.1==(0:Int))))

def Fj(a1:ac)(b:ac):Option (ac×Int):=
 (uU a1 b oz).bind fun r=>
 some (r.1,r.2)

def oA(a1:Int)(b:Int):Option (Int×Bool):=
  if(b==(0:Int))then
  (some ((0:Int),false))
  else
  ((sb a1).bind fun r=>
  (sb b).bind fun r1=>
  (nz r1).bind fun _=>
  (o0 (IntKind.u64.wrap ((r).tdiv r1)) ((decide (a1<(0:Int))) !=(decide (b<(0:Int))))).bind fun r2=>
  some (r2.1,r2.2))

def Fk(a1:ac)(b:ac):Option (ac×Int):=
 (uU a1 b oA).bind fun r=>
 some (r.1,r.2)

def B7(c:Int):Option Bool:=
 some (c==(0:Int))

def uC(a1:ac)(b:ac):Option (ac×Int):=
 (tF a1 b B7).bind fun r=>
 some (r.1,r.2)

def wC(do1:(ac->ac->Option (ac×Int)))(a1:ac)(b:ac):Option (ac×Int):=
  (do1 a1 b).bind fun r=>
  if(r.2 !=(0:Int))then
  (some (r.1,r.2))
  else
  ((tG r.1).bind fun r1=>
  some (r1.1,r1.2))

def D5(do1:(ac->ac->Option (ac×Int))):Option (ac->ac->Option (ac×Int)):=
 some (wC do1)

def FH(l:(List Int)):Option Int:=
 (di l (0:Int)).bind fun e=>
 (di l (1:Int)).bind fun e1=>
 some (min e e1)

def vK(a1:ac)(b:ac):Option (ac×Int):=
 (qf FH ([a1,b])).bind fun r=>
 some (r.1,r.2)

def G5(l:(List Int)):Option Int:=
 (di l (0:Int)).bind fun e=>
 (di l (1:Int)).bind fun e1=>
 some (max e e1)

def xV(a1:ac)(b:ac):Option (ac×Int):=
 (qf G5 ([a1,b])).bind fun r=>
 some (r.1,r.2)

def Bt:Option (List (Int×(ac->ac->Option (ac×Int)))):=
 (FY qg).bind fun r=>
 (CY Bw).bind fun r1=>
 (CY tG).bind fun r2=>
 (E6 true).bind fun r3=>
 (E6 false).bind fun r4=>
 (D5 uC).bind fun r5=>
 (D5 r).bind fun r6=>
 (D5 qg).bind fun r7=>
 some (eO (eO (eO (eO (eO (eO (eO (eO (eO (eO (eO (eO (eO (eO (eO (eO ([]:List (Int×(ac->ac->Option (ac×Int)))) (4:Int) r1) (5:Int) r2) (6:Int) r3) (7:Int) r4) (12:Int) Fl) (13:Int) yA) (14:Int) Fj) (15:Int) Fk) (16:Int) uC) (17:Int) r5) (18:Int) qg) (20:Int) r) (19:Int) r6) (21:Int) r7) (22:Int) vK) (23:Int) xV)

def ij(s:(List ac)):Option (List ac):=
 (app ([]:List ac) s).bind fun x=>
 some x

def mH(stack:(List ac))(k:Int):Option ((List ac)×(List ac)):=
 (eS stack (IntKind.i64.wrap ((stack.length:Int)-k)) (stack.length:Int)).bind fun y=>
 (ij y).bind fun r=>
 (eS stack 0 (IntKind.i64.wrap ((stack.length:Int)-k))).bind fun y1=>
 some (r,y1)

def iP(bad:Int)(stack:List ac):Option (ac×Int):=
  if(bad !=(0:Int))then
  (some ((⟨(0:Int),(0:Int),(0:Int),[]⟩:ac),bad))
  else
  ((di stack (0:Int)).bind fun e1=>
  some (e1,(0:Int)))

def fd(do1:(bZ->(List ac)->Option (ac×Int))):List bZ->Int->(List ac)->Option (ac×Int)
  |[],bad1,stack1=>
    iP bad1 stack1
  |e2::tl,bad1,stack1=>
    (r0 e2.Tag).bind fun r=>
    (mH stack1 r).bind fun r1=>
    (do1 e2 r1.1).bind fun r2=>
    if(r2.2 !=(0:Int))then
    (iP r2.2 r1.2)
    else
    ((app r1.2 ([r2.1])).bind fun l2=>
    (fd do1 tl) bad1 l2)

def j5(e:cy)(do1:(bZ->(List ac)->Option (ac×Int))):Option (ac×Int):=
 fd do1 e.Nodes (0:Int) ([]:List ac)

def te(r1:ac×Int)(no:Int):Option (ac×Int):=
 some (r1.1,no)

def ki(r:(List ac))(do1:(List (Int×(ac->ac->Option (ac×Int)))))(n:bZ)(l:(List ac)):Option (ac×Int):=
  if(n.Tag==(1:Int))then
  (some (n.Value,(0:Int)))
  else
  (if(n.Tag==(2:Int))then
  ((di r n.Col).bind fun e=>
  some (e,(0:Int)))
  else
  ((di l (0:Int)).bind fun e1=>
  (di l (IntKind.i64.wrap ((l.length:Int)-(1:Int)))).bind fun e2=>
  (((rm do1 n.Tag).getD (fun _ _=>none)) e1 e2).bind fun r1=>
  if((r1.2 !=(0:Int))&&(r1.2 !=(140:Int)))then
  (te r1 (201:Int))
  else
  (te r1 r1.2)))

def qN(e:cy)(r:(List ac)):List Int->ac->Option (ac×Int)
  |[],x=>
    (Bt).bind fun r3=>
    (j5 e (ki r r3)).bind fun r4=>
    some (r4.1,r4.2)
  |e1::tl,x=>
    (if(!(decide ((r.length:Int)<=e1)))then((di r e1).bind fun e2=>
    (ou e2).bind fun r5=>
    some (!r5))else some true).bind fun t=>
    if t then
    (some ((⟨(0:Int),(0:Int),(0:Int),[]⟩:ac),(2:Int)))
    else
    ((qN e r tl) x)

def vV(e:cy)(r:(List ac)):Option (ac×Int):=
  (uc e).bind fun r1=>
  if(r1 !=(0:Int))then
  (some ((⟨(0:Int),(0:Int),(0:Int),[]⟩:ac),r1))
  else
  ((vW e).bind fun r2=>
  qN e r r2 (⟨(0:Int),(0:Int),(0:Int),[]⟩:ac))

def yO(a1:ac):Option Bool:=
 (rN true).bind fun r=>
 some (decide (a1=r))

def tf(e:cy)(r:(List ac)):Option (Bool×Int):=
 (vV e r).bind fun r1=>
 (yO r1.1).bind fun r2=>
 some (r2,r1.2)

def js(n:aq)(x:Int×(List ac))(xs:List (List ac))(xs1:List Bool)(x1:Int)(x2:(List (List ac))):Option (Option Nat×(List (List ac)×List Bool×Int×(List (List ac)))):=
  (tf n.Cond x.2).bind fun r3=>
  if(r3.2 !=(0:Int))then
  (some (some 0,(xs,xs1,r3.2,[])))
  else
  (if r3.1 then
  ((di xs1 x.1).bind fun e2=>
  (some (xs1.set x.1.toNat true)).bind fun st=>
  (app xs ([x.2])).bind fun l2=>
  some (none,(l2,st,x1,x2)))
  else
  (some (none,(xs,xs1,x1,x2))))

def jr(r:fy)(n:aq)(r1:(Option Nat×(List (List ac)×List Bool×Int×(List (List ac))))×Unit):List (List ac)->Nat->(List (List ac))->Option ((List (List ac))×Int)
  |[],i2,out=>
    some (out,(0:Int))
  |e3::tl,i2,out=>
    (if n.Left then((di r1.1.2.2.1 (i2:Int)).bind fun e4=>
    some (!e4))else some false).bind fun t=>
    if t then
    ((di r.width n.B).bind fun e5=>
    (qe e5 (⟨(0:Int),(0:Int),(0:Int),[]⟩:ac)).bind fun mk1=>
    (eW ([e3,mk1])).bind fun r4=>
    (app out ([r4])).bind fun l7=>
    (jr r n r1 tl) (i2+1) l7)
    else
    ((jr r n r1 tl) (i2+1) out)

def lD(r:fy)(n:aq):Option ((List (List ac))×Int):=
  (di r.rows n.A).bind fun e=>
  (di r.rows n.B).bind fun e1=>
  if(decide ((40000:Int)<(IntKind.i64.wrap ((e.length:Int)*(e1.length:Int)))))then
  (some ([],(3:Int)))
  else
  ((qe (e.length:Int) false).bind fun mk=>
  (zu e e1).bind fun it=>
  ((itU it) (Option Nat×(List (List ac)×List Bool×Int×(List (List ac)))) (zN (fun x s=>js n x s.1 s.2.1 s.2.2.1 s.2.2.2)) (none,(([]:List (List ac)),mk,(0:Int),[]))).bind fun r1=>
  if r1.1.1.isNone then
  (jr r n r1 e 0 r1.1.2.1)
  else
  (some (r1.1.2.2.2.2,r1.1.2.2.2.1)))

def iy(n:aq):List (List ac)->(List (List ac))->Option ((List (List ac))×Int)
  |[],out=>
    some (out,(0:Int))
  |e1::tl,out=>
    (tf n.Cond e1).bind fun r1=>
    if(r1.2 !=(0:Int))then
    (some ([],r1.2))
    else
    (if r1.1 then
    ((app out ([e1])).bind fun out1=>
    (iy n tl) out1)
    else
    ((iy n tl) out))

def lk(r:fy)(n:aq):Option ((List (List ac))×Int):=
 (di r.rows n.A).bind fun e=>
 iy n e ([]:List (List ac))

def uG(v:ac):Option Bool:=
 (mT v).bind fun r=>
 some (r !=(0:Int))

def dJ(f:(ac->Option Bool)):List ac->Nat->Option Int
 |[],i=>
  some (-1:Int)
 |e::tl,i=>
  (f e).bind fun r=>
  if r then
  (some (i:Int))
  else
  ((dJ f tl) (i+1))

def mA(s:(List ac))(f:(ac->Option Bool)):Option Int:=
 dJ f s 0

def iH(s:(List ac))(f:(ac->Option Bool)):Option Bool:=
 (mA s f).bind fun r=>
 some (decide ((0:Int)<=r))

def vO(r:(List ac)):Option Bool:=
  (if(decide ((r.length:Int)<=(16:Int)))then((iH r uG).bind fun r1=>
  some (!r1))else some false).bind fun t=>
  some t

def sQ(nx:Int->Option Int)(e:(List (List ac)))(n:Int):List (List ac)->Option Int
 |[]=>
  nx (max n (e.length:Int))
 |e1::tl1=>
  (vO e1).bind fun r=>
  if(!r)then
  (some (150:Int))
  else
  ((sQ nx e n tl1))

def mW:List (List (List ac))->Int->Option Int
 |[],n=>
  if(decide ((8000:Int)<n))then
  (some (3:Int))
  else
  (some (0:Int))
 |e::tl,n=>
  sQ (mW tl) e n e

def yc(l:(List (List (List ac)))):Option Int:=
 mW l (0:Int)

def wY(c:Int):Option Bool:=
 some (decide (c<(0:Int)))

def Be(r:(List ac))(c:Int):Option Bool:=
 some ((decide (c<(0:Int)))||(decide ((r.length:Int)<=c)))

def Gt(r:(List ac))(columns:(List Int)):Option Bool:=
  (if(decide ((columns.length:Int)<=(16:Int)))then((dD columns (Be r)).bind fun r1=>
  some (!r1))else some false).bind fun t=>
  some t

def sR(columns:(List Int)):List (List ac)->Option Int
 |[]=>
  some (0:Int)
 |e::tl=>
  (Gt e columns).bind fun r2=>
  if(!r2)then
  (some (2:Int))
  else
  ((sR columns tl))

def Bf(l:(List (List ac)))(columns:(List Int)):Option Int:=
  (yc ([l])).bind fun r=>
  if(r !=(0:Int))then
  (some r)
  else
  ((if(!(decide ((16:Int)<(columns.length:Int))))then((dD columns wY).bind fun r1=>
  some r1)else some true).bind fun t=>
  if t then
  (some (2:Int))
  else
  (sR columns l))

def dx(s:(List ac)):Option (List ac):=
 (app ([]:List ac) s).bind fun x=>
 some x

def px:List (List ac)->(List (List ac))->Option (List (List ac))
 |[],out=>
  some out
 |e::tl,out=>
  (dx e).bind fun r=>
  (app out ([r])).bind fun out1=>
  (px tl) out1

def wi(l:(List (List ac))):Option (List (List ac)):=
 px l ([]:List (List ac))

def cw(s1:(List ac))(s2:(List ac))(cmp:(ac->ac->Option Int)):List ac->Nat->Option Int
  |[],i=>
    if(decide ((s1.length:Int)<(s2.length:Int)))then
    (some (-1:Int))
    else
    (some (0:Int))
  |e::tl,i=>
    if(decide ((s2.length:Int)<=(i:Int)))then
    (some (1:Int))
    else
    ((di s2 (i:Int)).bind fun e1=>
    (cmp e e1).bind fun r=>
    if(r !=(0:Int))then
    (some r)
    else
    ((cw s1 s2 cmp tl) (i+1)))

def dj(s1:(List ac))(s2:(List ac))(cmp:(ac->ac->Option Int)):Option Int:=
 cw s1 s2 cmp s1 0

def qQ(p:Int):Option Bool:=
 some (p !=p)

def oY(p:Int)(y:Int):Option Int:=
  (qQ p).bind fun r=>
  (qQ y).bind fun r1=>
  if r then
  (if r1 then
  (some (0:Int))
  else
  (some (-1:Int)))
  else
  (if r1 then
  (some (1:Int))
  else
  (if(decide (p<y))then
  (some (-1:Int))
  else
  (if(decide (y<p))then
  (some (1:Int))
  else
  (some (0:Int)))))

def qR(p:C0):Option Bool:=
 some (!(p==p))

def oZ(p:C0)(y:C0):Option Int:=
  (qR p).bind fun r=>
  (qR y).bind fun r1=>
  if r then
  (if r1 then
  (some (0:Int))
  else
  (some (-1:Int)))
  else
  (if r1 then
  (some (1:Int))
  else
  (if(Op.bytesLess p y)then
  (some (-1:Int))
  else
  (if(!(Op.bytesLess p y||p==y))then
  (some (1:Int))
  else
  (some (0:Int)))))

def rQ(a1:ac)(b:ac):Option Int:=
 (kj a1.Kind b.Kind).bind fun r=>
 (i9 a1.N b.N).bind fun r1=>
 (oY a1.U b.U).bind fun r2=>
 (oZ a1.S b.S).bind fun r3=>
 (oX ([r,r1,r2,r3])).bind fun r4=>
 some r4

def sj(a1:(List ac))(b:(List ac)):Option Int:=
 (dj a1 b rQ).bind fun r=>
 some r

def ov(r:(List ac)):List Int->(List ac)->Option (List ac)
 |[],out=>
  some out
 |e::tl,out=>
  (di r e).bind fun e1=>
  (app out ([e1])).bind fun out1=>
  (ov r tl) out1

def pb(r:(List ac))(columns:(List Int)):Option (List ac):=
 ov r columns ([]:List ac)

def oF(columns:(List Int))(a1:(List ac))(b:(List ac)):Option Int:=
 (pb a1 columns).bind fun r=>
 (pb b columns).bind fun r1=>
 (sj r r1).bind fun r2=>
 (sj a1 b).bind fun r3=>
 (oX ([r2,r3])).bind fun r4=>
 some r4

def fF(s2:(List ac)):List ac->Nat->Option Bool
 |[],i=>
  some true
 |e::tl,i=>
  (di s2 (i:Int)).bind fun e1=>
  if(!decide (e=e1))then
  (some false)
  else
  ((fF s2 tl) (i+1))

def kF(s1:(List ac))(s2:(List ac)):Option Bool:=
 if((s1.length:Int) !=(s2.length:Int))then
 (some false)
 else
 (fF s2 s1 0)

def sk(a1:(List ac))(b:(List ac)):Option Bool:=
 (kF a1 b).bind fun r=>
 some r

def iI(columns:(List Int))(a1:(List ac))(b:(List ac)):Option Bool:=
 (pb a1 columns).bind fun r=>
 (pb b columns).bind fun r1=>
 (sk r r1).bind fun r2=>
 some r2

def pw{Sg:Type}(alike:((List ac)->(List ac)->Option Bool))(yld:(List (List ac))->Sg->Option (Bool×Sg))(nx:Sg->(List (List ac))->Option Sg)(s1:Sg)(x:(List (List ac))):Nat->Int->Option Sg
  |0,_=>none
  |n2+1,n1=>
    (if(decide (n1<(x.length:Int)))then((di x (0:Int)).bind fun e2=>
    (di x n1).bind fun e3=>
    (alike e2 e3).bind fun r=>
    some r)else some false).bind fun t=>
    if t then
    ((pw alike yld nx s1 x n2) (IntKind.i64.wrap (n1+(1:Int))))
    else
    ((eS x 0 n1).bind fun y=>
    (yld (y) s1).bind fun r1=>
    if(!r1.1)then
    (some r1.2)
    else
    ((eS x n1 (x.length:Int)).bind fun y1=>
    nx r1.2 y1))

def mb{Sg:Type}(alike:((List ac)->(List ac)->Option Bool))(yld:(List (List ac))->Sg->Option (Bool×Sg)):Nat->Sg->(List (List ac))->Option Sg
 |0,_,_=>none
 |n+1,s1,x=>
  if(decide ((0:Int)<(x.length:Int)))then
  (pw alike yld (mb alike yld n) s1 x fm (1:Int))
  else
  (some s1)

def yW{Sg:Type}(l:(List (List ac)))(alike:((List ac)->(List ac)->Option Bool))(yld:(List (List ac))->Sg->Option (Bool×Sg))(s:Sg):Option Sg:=
 mb alike yld fm s l

def Hy(l:(List (List ac)))(alike:((List ac)->(List ac)->Option Bool)):Option (It (List (List ac))):=
 some (fun _=>yW l alike)

def gR(s:(List (List ac))):Option (List (List ac)):=
 (app ([]:List (List ac)) s).bind fun x=>
 some x

def md(columns:(List Int))(x:(List (List ac)))(xs:List eg):Option (List eg):=
 (di x (0:Int)).bind fun e=>
 (pb e columns).bind fun r2=>
 (gR x).bind fun r3=>
 (app xs ([(⟨r2,r3⟩:eg)])).bind fun l3=>
 some l3

def wj(l:(List (List ac)))(columns:(List Int)):Option ((List eg)×Int):=
  (Bf l columns).bind fun r=>
  if(r !=(0:Int))then
  (some ([],r))
  else
  ((wi l).bind fun r1=>
  (B9 (fun(x:(List ac)×(List ac))=>(oF columns) x.1 x.2) r1).bind fun u9=>
  (Hy u9 (iI columns)).bind fun it=>
  (it (List eg) (F6 (fun x s=>md columns x s)) ([]:List eg)).bind fun xs1=>
  some (xs1,(0:Int)))

def ld(a1:jt):List (List ac)->(List ac)->Int->Option ((List ac)×Int)
  |[],out,fault=>
    some (out,fault)
  |e::tl,out,fault=>
    (vV a1.Arg e).bind fun r=>
    if(r.2==(140:Int))then
    ((ld a1 tl) out r.2)
    else
    (if(r.2 !=(0:Int))then
    (some ([],(2:Int)))
    else
    (if(r.1.Kind !=(0:Int))then
    ((app out ([r.1])).bind fun out1=>
    (ld a1 tl) out1 fault)
    else
    ((ld a1 tl) out fault)))

def AY(a1:jt)(rows:(List (List ac))):Option ((List ac)×Int):=
 ld a1 rows ([]:List ac) (0:Int)

def oV(v:ac):Option Bool:=
 some (v.Kind !=(2:Int))

def d9(f:(ac->Option Bool)):List ac->Nat->Option Int
 |[],i=>
  some (-1:Int)
 |e::tl,i=>
  (f e).bind fun r=>
  if r then
  (some (i:Int))
  else
  ((d9 f tl) (i+1))

def iS(s:(List ac))(f:(ac->Option Bool)):Option Int:=
 d9 f s 0

def fG(s:(List ac))(f:(ac->Option Bool)):Option Bool:=
 (iS s f).bind fun r=>
 some (decide ((0:Int)<=r))

def ug(v:ac):Option ac:=
 some (⟨(4:Int),((v.N).fdiv (2^(min (Int.toNat (63:Int)) IntKind.i64.bits))),(IntKind.u64.wrap v.N),[]⟩:ac)

def zy(s:ac)(t:ac):Option (ac×Int):=
 (Pg s.U t.U (0:Int)).bind fun r=>
 (Pg (IntKind.u64.wrap s.N) (IntKind.u64.wrap t.N) r.2).bind fun r1=>
 if(decide ((fx .and .i64 (fx .xor .i64 s.N (IntKind.i64.wrap r1.1)) (fx .xor .i64 t.N (IntKind.i64.wrap r1.1)))<(0:Int)))then
 (some ((⟨(0:Int),(0:Int),(0:Int),[]⟩:ac),(140:Int)))
 else
 (some ((⟨(4:Int),(IntKind.i64.wrap r1.1),r.1,[]⟩:ac),(0:Int)))

def vX(s:ac)(v:ac):Option (ac×Int):=
  (sy (4:Int) ([s])).bind fun r=>
  (sy (2:Int) ([v])).bind fun r1=>
  if((r==(120:Int))||(r1==(120:Int)))then
  (some ((⟨(0:Int),(0:Int),(0:Int),[]⟩:ac),(120:Int)))
  else
  (if((r !=(0:Int))||(r1 !=(0:Int)))then
  (some ((⟨(0:Int),(0:Int),(0:Int),[]⟩:ac),(2:Int)))
  else
  (if(v.Kind==(0:Int))then
  (some (s,(0:Int)))
  else
  (if(s.Kind==(0:Int))then
  ((ug v).bind fun r2=>
  some (r2,(0:Int)))
  else
  ((ug v).bind fun r3=>
  (zy s r3).bind fun r4=>
  some (r4.1,r4.2)))))

def Bx(s:ac):Option (ac×Int):=
  (sy (4:Int) ([s])).bind fun r=>
  if(r !=(0:Int))then
  (some ((⟨(0:Int),(0:Int),(0:Int),[]⟩:ac),r))
  else
  (if(s.Kind==(0:Int))then
  (some (s,(0:Int)))
  else
  ((qE (IntKind.i64.wrap s.U)).bind fun r1=>
  (ug r1).bind fun r2=>
  if(decide (r2=s))then
  (some (r1,(0:Int)))
  else
  (some ((⟨(0:Int),(0:Int),(0:Int),[]⟩:ac),(140:Int)))))

def o3:List ac->ac->ac->Option (ac×Int)
 |[],x,s=>
  (Bx s).bind fun r1=>
  some (r1.1,r1.2)
 |e::tl,x,s=>
  (vX s e).bind fun r2=>
  if(r2.2 !=(0:Int))then
  (some (r2.1,r2.2))
  else
  ((o3 tl) x r2.1)

def By(l:(List ac)):Option (ac×Int):=
  if(decide ((1048576:Int)<(l.length:Int)))then
  (some ((⟨(0:Int),(0:Int),(0:Int),[]⟩:ac),(3:Int)))
  else
  ((rM).bind fun r=>
  o3 l (⟨(0:Int),(0:Int),(0:Int),[]⟩:ac) r)

def dH(cmp:(ac->ac->Option Int)):List ac->ac->Option ac
 |[],m=>
  some m
 |e1::tl,m=>
  (cmp e1 m).bind fun r=>
  if(decide (r<(0:Int)))then
  ((dH cmp tl) e1)
  else
  ((dH cmp tl) m)

def iF(p:(List ac))(cmp:(ac->ac->Option Int)):Option ac:=
 (di p (0:Int)).bind fun e=>
 dH cmp (p.drop (1)) e

def gA(p:(List ac))(cmp:(ac->ac->Option Int)):Option ac:=
 if(decide ((p.length:Int)<(1:Int)))then
 (none)
 else
 (iF p cmp)

def sl(a1:(List ac))(b:(List ac)):Option Int:=
  (vO a1).bind fun r=>
  (if(!(!r))then((vO b).bind fun r1=>
  some (!r1))else some true).bind fun t=>
  if t then
  (some (0:Int))
  else
  ((sj a1 b).bind fun r2=>
  some r2)

def jI(a1:ac)(b:ac):Option Int:=
 (sl ([a1]) ([b])).bind fun r=>
 some r

def dI(cmp:(ac->ac->Option Int)):List ac->ac->Option ac
 |[],m=>
  some m
 |e1::tl,m=>
  (cmp e1 m).bind fun r=>
  if(decide ((0:Int)<r))then
  ((dI cmp tl) e1)
  else
  ((dI cmp tl) m)

def iG(p:(List ac))(cmp:(ac->ac->Option Int)):Option ac:=
 (di p (0:Int)).bind fun e=>
 dI cmp (p.drop (1)) e

def gB(p:(List ac))(cmp:(ac->ac->Option Int)):Option ac:=
 if(decide ((p.length:Int)<(1:Int)))then
 (none)
 else
 (iG p cmp)

def oh(a1:jt)(rows:(List (List ac))):Option (ac×Int):=
  if(a1.Tag==(1:Int))then
  ((qE (rows.length:Int)).bind fun r=>
  some (r,(0:Int)))
  else
  ((AY a1 rows).bind fun r1=>
  if(r1.2==(2:Int))then
  (some ((⟨(0:Int),(0:Int),(0:Int),[]⟩:ac),r1.2))
  else
  ((if(a1.Tag==(3:Int))then((fG r1.1 oV).bind fun r2=>
  some r2)else some false).bind fun t=>
  if t then
  (some ((⟨(0:Int),(0:Int),(0:Int),[]⟩:ac),(2:Int)))
  else
  (if(r1.2 !=(0:Int))then
  (some ((⟨(0:Int),(0:Int),(0:Int),[]⟩:ac),r1.2))
  else
  (if(a1.Tag==(2:Int))then
  ((qE (r1.1.length:Int)).bind fun r3=>
  some (r3,(0:Int)))
  else
  (if(a1.Tag==(3:Int))then
  ((By r1.1).bind fun r4=>
  some (r4.1,r4.2))
  else
  (if((r1.1.length:Int)==(0:Int))then
  (some ((⟨(0:Int),(0:Int),(0:Int),[]⟩:ac),(0:Int)))
  else
  (if(a1.Tag==(4:Int))then
  ((gA r1.1 jI).bind fun r5=>
  some (r5,(0:Int)))
  else
  ((gB r1.1 jI).bind fun r6=>
  some (r6,(0:Int))))))))))

def j6(nx:(List (List ac))->Option ((List (List ac))×Int))(e1:eg)(out:List (List ac)):List jt->(List ac)->Option ((List (List ac))×Int)
  |[],x=>
    (app out ([x])).bind fun out1=>
    nx out1
  |e2::tl1,x=>
    (oh e2 e1.Rows).bind fun r3=>
    if(r3.2 !=(0:Int))then
    (some ([],r3.2))
    else
    ((app x ([r3.1])).bind fun x1=>
    (j6 nx e1 out tl1) x1)

def hT(n:aq):List eg->(List (List ac))->Option ((List (List ac))×Int)
 |[],out=>
  some (out,(0:Int))
 |e1::tl,out=>
  (dx e1.Key).bind fun r2=>
  j6 (hT n tl) e1 out n.Aggs r2

def nH(n:aq)(groups:(List eg)):Option ((List (List ac))×Int):=
 hT n groups ([]:List (List ac))

def kM(r:fy)(n:aq):Option ((List (List ac))×Int):=
  (di r.rows n.A).bind fun e=>
  (wj e n.Keys).bind fun r1=>
  if(r1.2 !=(0:Int))then
  (some ([],r1.2))
  else
  (if(((n.Keys.length:Int)==(0:Int))&&((r1.1.length:Int)==(0:Int)))then
  (nH n ([(⟨[],[]⟩:eg)]))
  else
  (nH n r1.1))

def ja(nx:(List (List ac))->Option ((List (List ac))×Int))(e1:(List ac))(out:List (List ac)):List cy->(List ac)->Option ((List (List ac))×Int)
  |[],y=>
    (app out ([y])).bind fun out1=>
    nx out1
  |e2::tl1,y=>
    (vV e2 e1).bind fun r1=>
    if(r1.2 !=(0:Int))then
    (some ([],r1.2))
    else
    ((app y ([r1.1])).bind fun y1=>
    (ja nx e1 out tl1) y1)

def hZ(n:aq):List (List ac)->(List (List ac))->Option ((List (List ac))×Int)
 |[],out=>
  some (out,(0:Int))
 |e1::tl,out=>
  ja (hZ n tl) e1 out n.Items ([]:List ac)

def kL(r:fy)(n:aq):Option ((List (List ac))×Int):=
 (di r.rows n.A).bind fun e=>
 hZ n e ([]:List (List ac))

def wh(l:(List (List ac))):Option (List (List ac)):=
 (wi l).bind fun r=>
 (B9 (fun(x:(List ac)×(List ac))=>sj x.1 x.2) r).bind fun u9=>
 some u9

def da(eq:((List ac)->(List ac)->Option Bool))(i:Nat)(y:List (List ac)):Nat->Nat->(List (List ac))->Int->Option (List (List ac))
  |0,i1,s1,k=>
    (eS s1 k (s1.length:Int)).bind fun y1=>
    (some (s1.take k.toNat++List.replicate y1.length ([]))).bind fun cl=>
    (eS cl 0 k).bind fun y2=>
    some y2
  |k2+1,i1,s1,k=>
    (AO s1 (i:Int) y.length (i1:Int)).bind fun e3=>
    (AO s1 (i:Int) y.length (IntKind.i64.wrap ((i1:Int)-(1:Int)))).bind fun e4=>
    (eq e3 e4).bind fun r1=>
    if(!r1)then
    ((AO s1 (i:Int) y.length (i1:Int)).bind fun e5=>
    (di s1 k).bind fun e6=>
    (some (s1.set k.toNat e5)).bind fun st=>
    (da eq i y k2) (i1+1) st (IntKind.i64.wrap (k+(1:Int))))
    else
    ((da eq i y k2) (i1+1) s1 k)

def dK(s:(List (List ac)))(eq:((List ac)->(List ac)->Option Bool)):List (List ac)->Nat->Option (List (List ac))
  |[],i=>
    some s
  |e::tl,i=>
    (di s (IntKind.i64.wrap ((i:Int)-(1:Int)))).bind fun e1=>
    (eq e e1).bind fun r=>
    if r then
    ((eS s (i:Int) (s.length:Int)).bind fun y=>
    da eq i y (y.length-1) 1 s (i:Int))
    else
    ((dK s eq tl) (i+1))

def gE(s:(List (List ac)))(eq:((List ac)->(List ac)->Option Bool)):Option (List (List ac)):=
 if(decide ((s.length:Int)<(2:Int)))then
 (some s)
 else
 (dK s eq (s.drop (1)) 1)

def vx(l:(List (List ac))):Option ((List (List ac))×Int):=
  (yc ([l])).bind fun r=>
  if(r !=(0:Int))then
  (some ([],r))
  else
  ((wh l).bind fun r1=>
  (gE r1 sk).bind fun r2=>
  some (r2,(0:Int)))

def j7(r:fy)(n:aq):Option ((List (List ac))×Int):=
 (di r.rows n.A).bind fun e=>
 (vx e).bind fun r1=>
 some (r1.1,r1.2)

def kD(s:List (List ac)):Option (List (List ac)):=
 some s

def kE(n:Int):Option (List (List ac)):=
  if(decide ((0:Int)<(IntKind.i64.wrap (n-(IntKind.i64.wrap ((0:Int)-(0:Int)))))))then
  ((gt0 (IntKind.i64.wrap (n-(IntKind.i64.wrap ((0:Int)-(0:Int)))))).bind fun _=>
  (qe (IntKind.i64.wrap (n-(IntKind.i64.wrap ((0:Int)-(0:Int))))) ([])).bind fun mk=>
  (eS mk 0 (0:Int)).bind fun y=>
  kD y)
  else
  (kD ([]:List (List ac)))

def jD(n:Int):Option (List (List ac)):=
 if(decide (n<(0:Int)))then
 (none)
 else
 (kE n)

def ig:List (List (List ac))->(List (List ac))->Option (List (List ac))
 |[],newslice=>
  some newslice
 |e1::tl1,newslice=>
  (app newslice e1).bind fun newslice1=>
  (ig tl1) newslice1

def ii(slices:(List (List (List ac)))):List (List (List ac))->Int->Option (List (List ac))
 |[],size=>
  (jD size).bind fun r=>
  ig slices r
 |e::tl,size=>
  if(decide ((IntKind.i64.wrap (size+(e.length:Int)))<(0:Int)))then
  (none)
  else
  ((ii slices tl) (IntKind.i64.wrap (size+(e.length:Int))))

def gy(slices:(List (List (List ac)))):Option (List (List ac)):=
 ii slices slices (0:Int)

def mu(r:fy)(n:aq):Option ((List (List ac))×Int):=
 (di r.rows n.A).bind fun e=>
 (di r.rows n.B).bind fun e1=>
 (gy ([e,e1])).bind fun r1=>
 some (r1,(0:Int))

def qv(nx:Option Int)(n:Int):Option Int:=
 if(n !=(0:Int))then
 (some n)
 else
 (nx)

def lc(a1:(List ac))(b:(List ac)):List jG->Option Int
 |[]=>
  (sl a1 b).bind fun r=>
  some r
 |e::tl=>
  (di a1 e.Col).bind fun e1=>
  (di b e.Col).bind fun e2=>
  (jI e1 e2).bind fun r1=>
  if e.Desc then
  (qv (lc a1 b tl) (IntKind.i64.wrap (0-r1)))
  else
  (qv (lc a1 b tl) r1)

def qw(order:(List jG))(a1:(List ac))(b:(List ac)):Option Int:=
 lc a1 b order

def Fb(order:(List jG)):Option ((List ac)->(List ac)->Option Int):=
 some (qw order)

def qP(out1:List (List ac)):Option (List (List ac)):=
 some out1

def mt(order:(List jG))(limit:Int):List (List ac)->(List (List ac))->Option (List (List ac))
  |[],out=>
    (Fb order).bind fun r=>
    (B9 (fun(x:(List ac)×(List ac))=>r x.1 x.2) out).bind fun u9=>
    if((decide ((0:Int)<=limit))&&(decide (limit<(u9.length:Int))))then
    ((eS u9 0 limit).bind fun y=>
    qP y)
    else
    (qP u9)
  |e::tl,out=>
    (dx e).bind fun r1=>
    (app out ([r1])).bind fun out2=>
    (mt order limit tl) out2

def rr(rows:(List (List ac)))(order:(List jG))(limit:Int):Option (List (List ac)):=
 mt order limit rows ([]:List (List ac))

def mv(r:fy)(n:aq):Option ((List (List ac))×Int):=
 (di r.rows n.A).bind fun e=>
 (rr e n.Order n.Limit).bind fun r1=>
 some (r1,(0:Int))

def y5(l:(List (List ac))):Option ((List (List ac))×Int):=
  (yc ([l])).bind fun r=>
  if(r !=(0:Int))then
  (some ([],r))
  else
  ((wh l).bind fun r1=>
  some (r1,(0:Int)))

def fK(s:(List jG)):Option (List jG):=
 (app ([]:List jG) s).bind fun x=>
 some x

def df(s:(List bZ)):Option (List bZ):=
 (app ([]:List bZ) s).bind fun x=>
 some x

def gS(s:(List jt)):Option (List jt):=
 (app ([]:List jt) s).bind fun x=>
 some x

def gc(s:(List cy)):Option (List cy):=
 (app ([]:List cy) s).bind fun x=>
 some x

def pi:List cy->Nat->aq->Option aq
 |[],i1,n4=>
  some n4
 |e1::tl1,i1,n4=>
  (di n4.Items (i1:Int)).bind fun e2=>
  (df e2.Nodes).bind fun r6=>
  (some (n4.Items.set (i1:Int).toNat ({e2 with Nodes:=r6}:cy))).bind fun st=>
  (pi tl1) (i1+1) ({n4 with Items:=st}:aq)

def pj:List jt->Nat->aq->Option aq
 |[],i,n3=>
  pi n3.Items 0 n3
 |e::tl,i,n3=>
  (di n3.Aggs (i:Int)).bind fun e3=>
  (df e3.Arg.Nodes).bind fun r7=>
  (some (n3.Aggs.set (i:Int).toNat ({e3 with Arg:=({e3.Arg with Nodes:=r7}:cy)}:jt))).bind fun st1=>
  (pj tl) (i+1) ({n3 with Aggs:=st1}:aq)

def pm(n2:aq):Option aq:=
 (dw n2.Kinds).bind fun r=>
 (dw n2.Keys).bind fun r1=>
 (fK n2.Order).bind fun r2=>
 (df (((aq.mk n2.Op n2.A n2.B n2.Table r n2.Left n2.Cond r1 n2.Aggs n2.Items r2 n2.Limit).Cond).Nodes)).bind fun r3=>
 (gS (({(aq.mk n2.Op n2.A n2.B n2.Table r n2.Left n2.Cond r1 n2.Aggs n2.Items r2 n2.Limit)with Cond:=({(aq.mk n2.Op n2.A n2.B n2.Table r n2.Left n2.Cond r1 n2.Aggs n2.Items r2 n2.Limit).Cond with Nodes:=r3}:cy)}:aq).Aggs)).bind fun r4=>
 (gc (({(aq.mk n2.Op n2.A n2.B n2.Table r n2.Left n2.Cond r1 n2.Aggs n2.Items r2 n2.Limit)with Cond:=({(aq.mk n2.Op n2.A n2.B n2.Table r n2.Left n2.Cond r1 n2.Aggs n2.Items r2 n2.Limit).Cond with Nodes:=r3}:cy)}:aq).Items)).bind fun r5=>
 pj r4 0 ({({({(aq.mk n2.Op n2.A n2.B n2.Table r n2.Left n2.Cond r1 n2.Aggs n2.Items r2 n2.Limit)with Cond:=({(aq.mk n2.Op n2.A n2.B n2.Table r n2.Left n2.Cond r1 n2.Aggs n2.Items r2 n2.Limit).Cond with Nodes:=r3}:cy)}:aq)with Aggs:=r4}:aq)with Items:=r5}:aq)

def rE(by1:Int)(n1:aq):Option aq:=
 if(decide ((0:Int)<=n1.B))then
 (pm (aq.mk n1.Op n1.A (IntKind.i64.wrap (n1.B+by1)) n1.Table n1.Kinds n1.Left n1.Cond n1.Keys n1.Aggs n1.Items n1.Order n1.Limit))
 else
 (pm n1)

def vC(n:aq)(by1:Int):Option aq:=
 if(decide ((0:Int)<=n.A))then
 (rE by1 (aq.mk n.Op (IntKind.i64.wrap (n.A+by1)) n.B n.Table n.Kinds n.Left n.Cond n.Keys n.Aggs n.Items n.Order n.Limit))
 else
 (rE by1 n)

def pI(l:cC)(place:Int)(e:Int):Nat->Int->cC->Option (cC×Int)
  |0,_,_=>none
  |n+1,i,out=>
    if(decide (i<=place))then
    ((di l.Nodes i).bind fun e1=>
    (vC e1 (IntKind.i64.wrap (0-e))).bind fun r1=>
    (app out.Nodes ([r1])).bind fun l2=>
    (pI l place e n) (IntKind.i64.wrap (i+(1:Int))) ({out with Nodes:=l2}:cC))
    else
    (some (out,(0:Int)))

def wv(l:cC)(place:Int):Option (cC×Int):=
  (rX l).bind fun r=>
  if(!r.2.2)then
  (some ((⟨[]⟩:cC),(230:Int)))
  else
  (if((decide (place<(0:Int)))||(decide ((l.Nodes.length:Int)<=place)))then
  (some ((⟨[]⟩:cC),(2:Int)))
  else
  ((di r.1.first place).bind fun e=>
  pI l place e fm e ({(⟨[]⟩:cC)with Nodes:=([]:List aq)}:cC)))

def uO(l:cC):Option ((List Int)×Int):=
  (rX l).bind fun r=>
  if(!r.2.2)then
  (some ([],(230:Int)))
  else
  ((di r.1.kinds r.2.1).bind fun e=>
  (dw e).bind fun r1=>
  some (r1,(0:Int)))

def qx(l:cC)(nx:Nat->fy->Option ((List (List ac))×Int))(i:Nat)(r2:((List (List ac))×Int)×fy)(rows:(List (List ac))):Option ((List (List ac))×Int):=
 (wv l (i:Int)).bind fun r3=>
 (uO r3.1).bind fun r4=>
 (app r2.2.rows ([rows])).bind fun l3=>
 (app r2.2.width ([(r4.1.length:Int)])).bind fun l4=>
 nx (i+1) ({({r2.2 with rows:=l3}:fy)with width:=l4}:fy)

def qy(l:cC)(nx:Nat->fy->Option ((List (List ac))×Int))(i:Nat)(e:aq)(r2:((List (List ac))×Int)×fy)(e2:Int):Option ((List (List ac))×Int):=
  if(e2 !=(0:Int))then
  (some ([],e2))
  else
  (if(e.Op !=(8:Int))then
  ((y5 r2.1.1).bind fun r5=>
  qx l nx i r2 r5.1)
  else
  (qx l nx i r2 r2.1.1))

def iz(l:cC):List aq->Nat->fy->Option ((List (List ac))×Int)
 |[],i,ob=>
  (di ob.rows (IntKind.i64.wrap ((ob.rows.length:Int)-(1:Int)))).bind fun e1=>
  some (e1,(0:Int))
 |e::tl,i,ob=>
  (((rm (eO (eO (eO (eO (eO (eO (eO (eO ([]:List (Int×(fy->aq->Option (((List (List ac))×Int)×fy)))) (1:Int) (fun(mc:fy) (mx:aq)=>(mO mc mx).map fun mr=>(mr,mc))) (2:Int) (fun(mc:fy) (mx:aq)=>(lD mc mx).map fun mr=>(mr,mc))) (3:Int) (fun(mc:fy) (mx:aq)=>(lk mc mx).map fun mr=>(mr,mc))) (4:Int) (fun(mc:fy) (mx:aq)=>(kM mc mx).map fun mr=>(mr,mc))) (5:Int) (fun(mc:fy) (mx:aq)=>(kL mc mx).map fun mr=>(mr,mc))) (6:Int) (fun(mc:fy) (mx:aq)=>(j7 mc mx).map fun mr=>(mr,mc))) (7:Int) (fun(mc:fy) (mx:aq)=>(mu mc mx).map fun mr=>(mr,mc))) (8:Int) (fun(mc:fy) (mx:aq)=>(mv mc mx).map fun mr=>(mr,mc))) e.Op).getD (fun _ _=>none)) ob (e)).bind fun r2=>
  if((r2.1.2==(0:Int))&&(decide ((8000:Int)<(r2.1.1.length:Int))))then
  (qy l (iz l tl) i e r2 (3:Int))
  else
  (qy l (iz l tl) i e r2 r2.1.2)

def mn(l:cC)(b:dg):Option ((List (List ac))×Int):=
  (uP l).bind fun r=>
  if(r.2 !=(0:Int))then
  (some ([],r.2))
  else
  ((qA l b).bind fun r1=>
  if(!r1)then
  (some ([],(250:Int)))
  else
  (iz l l.Nodes 0 (⟨b,[],[]⟩:fy)))

def H6:Option aq:=
 some (⟨(1:Int),(-1:Int),(-1:Int),(0:Int),[(2:Int)],false,(⟨[]⟩:cy),[],[],[],[],(0:Int)⟩:aq)

def Kn(k:Int):Option cy:=
 some (⟨[(⟨(2:Int),(-1:Int),(-1:Int),k,(⟨(0:Int),(0:Int),(0:Int),[]⟩:ac)⟩:bZ)]⟩:cy)

def Mc(k:Int):Option (List ac):=
 some ([(⟨(2:Int),k,(0:Int),[]⟩:ac)])

def FU:Option dg:=
 (Mc (1:Int)).bind fun r=>
 (Mc (2:Int)).bind fun r1=>
 some (⟨[[r,r1,[(⟨(0:Int),(0:Int),(0:Int),[]⟩:ac)]]]⟩:dg)

def xg:Option Bool:=
  (H6).bind fun r=>
  (Kn (0:Int)).bind fun r1=>
  (FU).bind fun r2=>
  (mn (⟨[r,(⟨(4:Int),(0:Int),(-1:Int),(0:Int),[],false,(⟨[]⟩:cy),[],[(⟨(1:Int),(⟨[]⟩:cy)⟩:jt),(⟨(3:Int),r1⟩:jt)],[],[],(0:Int)⟩:aq)]⟩:cC) r2).bind fun r3=>
  (if((r3.2==(0:Int))&&((r3.1.length:Int)==(1:Int)))then((di r3.1 (0:Int)).bind fun e=>
  some ((e.length:Int)==(2:Int)))else some false).bind fun t=>
  (if t then((di r3.1 (0:Int)).bind fun e1=>
  (di e1 (0:Int)).bind fun e2=>
  some (e2.N==(3:Int)))else some false).bind fun t1=>
  (if t1 then((di r3.1 (0:Int)).bind fun e3=>
  (di e3 (1:Int)).bind fun e4=>
  some (e4.N==(3:Int)))else some false).bind fun t2=>
  some t2

def m6(nx:Option Bool):List ac->Option Bool
 |[]=>
  nx
 |e1::tl1=>
  if(decide ((200:Int)<(e1.S.length:Int)))then
  (some true)
  else
  ((m6 nx tl1))

def jX:List (List ac)->Option Bool
 |[]=>
  some false
 |e::tl=>
  if(decide ((30:Int)<(e.length:Int)))then
  (some true)
  else
  (m6 (jX tl) e)

def s7(l:(List (List ac)))(most:Int):Option Bool:=
 if(decide (most<(l.length:Int)))then
 (some true)
 else
 (jX l)

def m8:List (List (List ac))->Option Bool
 |[]=>
  some false
 |e::tl=>
  (s7 e (30:Int)).bind fun r=>
  if r then
  (some true)
  else
  ((m8 tl))

def s8(b:dg):Option Bool:=
 if(decide ((10:Int)<(b.Tables.length:Int)))then
 (some true)
 else
 (m8 b.Tables)

def m7:List bZ->Option Bool
 |[]=>
  some false
 |e1::tl=>
  if(decide ((200:Int)<(e1.Value.S.length:Int)))then
  (some true)
  else
  ((m7 tl))

def nX(e:cy):Option Bool:=
 if(decide ((100:Int)<(e.Nodes.length:Int)))then
 (some true)
 else
 (m7 e.Nodes)

def pJ(b:dg)(nx:Int->Option Bool)(e:aq)(rows:Int):List jt->Option Bool
  |[]=>
    if(((e.Op==(1:Int))&&(decide ((0:Int)<=e.Table)))&&(decide (e.Table<(b.Tables.length:Int))))then
    ((di b.Tables e.Table).bind fun e3=>
    nx (IntKind.i64.wrap (rows*(IntKind.i64.wrap ((e3.length:Int)+(1:Int))))))
    else
    (nx rows)
  |e2::tl2=>
    (nX e2.Arg).bind fun r1=>
    if r1 then
    (some true)
    else
    ((pJ b nx e rows tl2))

def pK(b:dg)(nx:Int->Option Bool)(e:aq)(rows:Int):List cy->Option Bool
 |[]=>
  pJ b nx e rows e.Aggs
 |e1::tl1=>
  (nX e1).bind fun r2=>
  if r2 then
  (some true)
  else
  ((pK b nx e rows tl1))

def ml(b:dg):List aq->Int->Option Bool
  |[],rows=>
    some (decide ((3000:Int)<rows))
  |e::tl,rows=>
    (if(!(((((decide ((20:Int)<(e.Kinds.length:Int)))||(decide ((20:Int)<(e.Keys.length:Int))))||(decide ((20:Int)<(e.Order.length:Int))))||(decide ((20:Int)<(e.Items.length:Int))))||(decide ((20:Int)<(e.Aggs.length:Int)))))then((nX e.Cond).bind fun r=>
    some r)else some true).bind fun t=>
    if t then
    (some true)
    else
    (pK b (ml b tl) e rows e.Items)

def zf(l:cC)(b:dg):Option Bool:=
 if(decide ((30:Int)<(l.Nodes.length:Int)))then
 (some true)
 else
 (ml b l.Nodes (1:Int))

def ni(a1:(List ac))(b:(List ac)):Option (List ac):=
 (app ([]:List ac) a1).bind fun out=>
 (app out b).bind fun x=>
 some x

def rb(b:dg)(nx:Int->dg->Option dg)(i:Int)(out:dg):Nat->(List (List ac))->Int->Option dg
  |0,_,_=>none
  |n1+1,l1,k=>
    (di b.Tables i).bind fun e=>
    if(decide (k<(e.length:Int)))then
    ((di e k).bind fun e1=>
    (ni e1 ([])).bind fun r=>
    (app l1 ([r])).bind fun l4=>
    (rb b nx i out n1) l4 (IntKind.i64.wrap (k+(1:Int))))
    else
    ((app out.Tables ([l1])).bind fun l6=>
    nx (IntKind.i64.wrap (i+(1:Int))) ({out with Tables:=l6}:dg))

def nj(b:dg):Nat->Int->dg->Option dg
 |0,_,_=>none
 |n+1,i,out=>
  if(decide (i<(b.Tables.length:Int)))then
  (rb b (nj b n) i out fm ([]:List (List ac)) (0:Int))
  else
  (some out)

def zb(b:dg):Option dg:=
 nj b fm (0:Int) ({(⟨[]⟩:dg)with Tables:=([]:List (List (List ac)))}:dg)

def d5(v:ac):Option Bool:=
  if(v.Kind==(0:Int))then
  (some (decide (v=(⟨(0:Int),(0:Int),(0:Int),[]⟩:ac))))
  else
  (if(v.Kind==(1:Int))then
  (some (((v.U==(0:Int))&&(v.S==([])))&&((v.N==(0:Int))||(v.N==(1:Int)))))
  else
  (if(v.Kind==(2:Int))then
  (some ((v.U==(0:Int))&&(v.S==([]))))
  else
  (if(v.Kind==(3:Int))then
  (some (((v.N==(0:Int))&&(v.U==(0:Int)))&&(decide ((v.S.length:Int)<=(40:Int)))))
  else
  (some ((v.Kind==(4:Int))&&(v.S==([])))))))

def qn:List ac->Option Bool
 |[]=>
  some true
 |e::tl=>
  (d5 e).bind fun r1=>
  if(!r1)then
  (some false)
  else
  ((qn tl))

def xb(r:(List ac)):Option Bool:=
 if(decide ((16:Int)<(r.length:Int)))then
 (some false)
 else
 (qn r)

def nS(l:(List (List ac))):List (List ac)->Option Int
 |[]=>
  if(decide ((8000:Int)<(l.length:Int)))then
  (some (3:Int))
  else
  (some (0:Int))
 |e::tl=>
  (xb e).bind fun r=>
  if(!r)then
  (some (150:Int))
  else
  ((nS l tl))

def AA(l:(List (List ac))):Option Int:=
 nS l l

def nl(less:Bool):Option Int:=
 if less then
 (some (-1:Int))
 else
 (some (1:Int))

def mZ(a1:ac)(b:ac):Option Int:=
  if(a1.Kind !=b.Kind)then
  ((nl (decide (a1.Kind<b.Kind))).bind fun r=>
  some r)
  else
  (if(a1.N !=b.N)then
  ((nl (decide (a1.N<b.N))).bind fun r1=>
  some r1)
  else
  (if(a1.U !=b.U)then
  ((nl (decide (a1.U<b.U))).bind fun r2=>
  some r2)
  else
  (if(!(a1.S==b.S))then
  ((nl (Op.bytesLess a1.S b.S)).bind fun r3=>
  some r3)
  else
  (some (0:Int)))))

def nT(a1:(List ac))(b:(List ac)):Nat->Int->Option Int
  |0,_=>none
  |n+1,i=>
    if((decide (i<(a1.length:Int)))&&(decide (i<(b.length:Int))))then
    ((di a1 i).bind fun e=>
    (di b i).bind fun e1=>
    (mZ e e1).bind fun r=>
    if(r !=(0:Int))then
    (some r)
    else
    ((nT a1 b n) (IntKind.i64.wrap (i+(1:Int)))))
    else
    (if((a1.length:Int)==(b.length:Int))then
    (some (0:Int))
    else
    ((nl (decide ((a1.length:Int)<(b.length:Int)))).bind fun r1=>
    some r1))

def mg(a1:(List ac))(b:(List ac)):Option Int:=
 nT a1 b fm (0:Int)

def rj(b:(List (List ac))):List (List ac)->Nat->Option Bool
 |[],i=>
  some true
 |e::tl,i=>
  (di b (i:Int)).bind fun e1=>
  (mg e e1).bind fun r=>
  if(r !=(0:Int))then
  (some false)
  else
  ((rj b tl) (i+1))

def wn(a1:(List (List ac)))(b:(List (List ac))):Option Bool:=
 if((a1.length:Int) !=(b.length:Int))then
 (some false)
 else
 (rj b a1 0)

def mD(x1:Bool):Option Int:=
 if x1 then
 (some (1:Int))
 else
 (some (-1:Int))

def sT(op:Int)(x:Bool):Option Int:=
  if x then
  (some (2:Int))
  else
  (if(op==(3:Int))then
  (mD (op==(3:Int)))
  else
  (if(op==(4:Int))then
  (mD (op==(4:Int)))
  else
  (if(op==(5:Int))then
  (mD (op==(5:Int)))
  else
  (if(op==(6:Int))then
  (mD (op==(6:Int)))
  else
  (mD (op==(8:Int)))))))

def w9(op:Int):Option Int:=
  if(op==(1:Int))then
  (some (0:Int))
  else
  (if(op==(2:Int))then
  (sT op (op==(2:Int)))
  else
  (sT op (op==(7:Int))))

def cR:Nat->cC->Int->Option Int
  |0,_,_=>none
  |fu+1,l,at1=>
    if((decide (at1<(0:Int)))||(decide ((l.Nodes.length:Int)<=at1)))then
    (some (0:Int))
    else
    ((di l.Nodes at1).bind fun e=>
    (w9 e.Op).bind fun r=>
    if(r==(0:Int))then
    (if((e.A==(-1:Int))&&(e.B==(-1:Int)))then
    (some (1:Int))
    else
    (some (0:Int)))
    else
    (if(r==(1:Int))then
    (if((e.A==(IntKind.i64.wrap (at1-(1:Int))))&&(e.B==(-1:Int)))then
    (((cR fu) l e.A).bind fun r1=>
    if(decide ((0:Int)<r1))then
    (some (IntKind.i64.wrap (r1+(1:Int))))
    else
    (some (0:Int)))
    else
    (some (0:Int)))
    else
    (if(r==(2:Int))then
    (if(e.B==(IntKind.i64.wrap (at1-(1:Int))))then
    (((cR fu) l e.B).bind fun r2=>
    if((decide ((0:Int)<r2))&&(e.A==(IntKind.i64.wrap (e.B-r2))))then
    (((cR fu) l e.A).bind fun r3=>
    if(decide ((0:Int)<r3))then
    (some (IntKind.i64.wrap ((IntKind.i64.wrap (r3+r2))+(1:Int))))
    else
    (some (0:Int)))
    else
    (some (0:Int)))
    else
    (some (0:Int)))
    else
    (some (0:Int)))))

def lx(l:cC)(at1:Int):Option Int:=
 cR fm l at1

def vP(n:aq):Option Bool:=
  if((n.Op !=(1:Int))&&((n.Table !=(0:Int))||(decide ((0:Int)<(n.Kinds.length:Int)))))then
  (some false)
  else
  (if(((n.Op !=(2:Int))&&n.Left)||(((n.Op !=(2:Int))&&(n.Op !=(3:Int)))&&(decide ((0:Int)<(n.Cond.Nodes.length:Int)))))then
  (some false)
  else
  (if(((n.Op !=(4:Int))&&((decide ((0:Int)<(n.Keys.length:Int)))||(decide ((0:Int)<(n.Aggs.length:Int)))))||((n.Op !=(5:Int))&&(decide ((0:Int)<(n.Items.length:Int)))))then
  (some false)
  else
  (some ((n.Op==(8:Int))||(((n.Order.length:Int)==(0:Int))&&(n.Limit==(0:Int)))))))

def Az(tag:Int):Option Int:=
  if((decide (tag<(1:Int)))||(decide ((23:Int)<tag)))then
  (some (-1:Int))
  else
  (if(decide (tag<=(3:Int)))then
  (some (0:Int))
  else
  (if(decide (tag<=(11:Int)))then
  (some (1:Int))
  else
  (some (2:Int))))

def xa(tag:Int):Option Int:=
  if((tag==(3:Int))||((decide ((8:Int)<=tag))&&(decide (tag<=(11:Int)))))then
  (some (-1:Int))
  else
  ((Az tag).bind fun r=>
  some r)

def m4(v:ac):Option Bool:=
 (d5 v).bind fun r=>
 some (r&&(v.Kind !=(4:Int)))

def mY(n:bZ):Option Bool:=
  if(n.Tag==(1:Int))then
  ((m4 n.Value).bind fun r=>
  some (r&&(n.Col==(0:Int))))
  else
  (if(n.Tag==(2:Int))then
  (some (((decide (n.Value=(⟨(0:Int),(0:Int),(0:Int),[]⟩:ac)))&&(decide ((0:Int)<=n.Col)))&&(decide (n.Col<(16:Int)))))
  else
  (some ((decide (n.Value=(⟨(0:Int),(0:Int),(0:Int),[]⟩:ac)))&&(n.Col==(0:Int)))))

def jQ:Nat->cy->Int->Option Int
  |0,_,_=>none
  |fu+1,e,place=>
    if((decide (place<(0:Int)))||(decide ((e.Nodes.length:Int)<=place)))then
    (some (0:Int))
    else
    ((di e.Nodes place).bind fun e1=>
    (xa e1.Tag).bind fun r=>
    (if(!(decide (r<(0:Int))))then((mY e1).bind fun r1=>
    some (!r1))else some true).bind fun t=>
    if t then
    (some (0:Int))
    else
    (if(r==(0:Int))then
    (if((e1.L !=(-1:Int))||(e1.R !=(-1:Int)))then
    (some (0:Int))
    else
    (some (1:Int)))
    else
    (((jQ fu) e (IntKind.i64.wrap (place-(1:Int)))).bind fun r2=>
    if(r2==(0:Int))then
    (some (0:Int))
    else
    (if(r==(1:Int))then
    (if((e1.L !=(IntKind.i64.wrap (place-(1:Int))))||(e1.R !=(-1:Int)))then
    (some (0:Int))
    else
    (some (IntKind.i64.wrap (r2+(1:Int)))))
    else
    (((jQ fu) e (IntKind.i64.wrap ((IntKind.i64.wrap (place-(1:Int)))-r2))).bind fun r3=>
    if(((r3==(0:Int))||(e1.R !=(IntKind.i64.wrap (place-(1:Int)))))||(e1.L !=(IntKind.i64.wrap ((IntKind.i64.wrap (place-(1:Int)))-r2))))then
    (some (0:Int))
    else
    (some (IntKind.i64.wrap ((IntKind.i64.wrap (r3+r2))+(1:Int)))))))))

def CL(e:cy)(place:Int):Option Int:=
 jQ fm e place

def uK(e:cy):Option Bool:=
  (if((decide ((1:Int)<=(e.Nodes.length:Int)))&&(decide ((e.Nodes.length:Int)<=(1000:Int))))then((CL e (IntKind.i64.wrap ((e.Nodes.length:Int)-(1:Int)))).bind fun r=>
  some (r==(e.Nodes.length:Int)))else some false).bind fun t=>
  some t

def jl(k:Int)(want:Int):Option Bool:=
 some ((k==want)||(k==(0:Int)))

def jR(tag:Int)(l:Int)(r:Int):Option (Int×Bool):=
  if((tag==(4:Int))||((decide ((12:Int)<=tag))&&(decide (tag<=(15:Int)))))then
  ((jl l (2:Int)).bind fun r1=>
  (if r1 then((jl r (2:Int)).bind fun r2=>
  some r2)else some false).bind fun t=>
  some ((2:Int),t))
  else
  (if((tag==(5:Int))||(decide ((22:Int)<=tag)))then
  ((jl l (1:Int)).bind fun r3=>
  (if r3 then((jl r (1:Int)).bind fun r4=>
  some r4)else some false).bind fun t1=>
  some ((1:Int),t1))
  else
  (if((tag==(6:Int))||(tag==(7:Int)))then
  (some ((1:Int),true))
  else
  (some ((1:Int),(((l==r)||(l==(0:Int)))||(r==(0:Int)))))))

def re(nx2:(List Int)->Option (Int×Int))(e3:bZ)(own:List Int)(e6:Int)(r1:Int):Option (Int×Int):=
  (jR e3.Tag e6 r1).bind fun r2=>
  if(!r2.2)then
  (some ((0:Int),(201:Int)))
  else
  ((app own ([r2.1])).bind fun own3=>
  nx2 own3)

def dT(kinds:(List Int)):List bZ->(List Int)->Option (Int×Int)
  |[],own=>
    (di own (IntKind.i64.wrap ((own.length:Int)-(1:Int)))).bind fun e4=>
    some (e4,(0:Int))
  |e3::tl2,own=>
    if(e3.Tag==(1:Int))then
    ((app own ([e3.Value.Kind])).bind fun own1=>
    (dT kinds tl2) own1)
    else
    (if(e3.Tag==(2:Int))then
    ((di kinds e3.Col).bind fun e5=>
    (app own ([e5])).bind fun own2=>
    (dT kinds tl2) own2)
    else
    ((di own e3.L).bind fun e6=>
    if(decide ((0:Int)<=e3.R))then
    ((di own e3.R).bind fun e7=>
    re (dT kinds tl2) e3 own e6 e7)
    else
    (re (dT kinds tl2) e3 own e6 (0:Int))))

def pE(e:cy)(kinds:(List Int)):List bZ->Option (Int×Int)
 |[]=>
  dT kinds e.Nodes ([]:List Int)
 |e2::tl1=>
  if((e2.Tag==(2:Int))&&(decide ((kinds.length:Int)<=e2.Col)))then
  (some ((0:Int),(2:Int)))
  else
  ((pE e kinds tl1))

def rd(e:cy)(kinds:(List Int)):List Int->Option (Int×Int)
 |[]=>
  pE e kinds e.Nodes
 |e1::tl=>
  if((decide (e1<(0:Int)))||(decide ((3:Int)<e1)))then
  (some ((0:Int),(2:Int)))
  else
  ((rd e kinds tl))

def tJ(e:cy)(kinds:(List Int)):Option (Int×Int):=
 (uK e).bind fun r=>
 if(!r)then
 (some ((0:Int),(200:Int)))
 else
 (rd e kinds kinds)

def uJ(e:cy)(kinds:(List Int)):Option Bool:=
 (tJ e kinds).bind fun r=>
 some ((r.2==(0:Int))&&((r.1==(0:Int))||(r.1==(1:Int))))

def lw(a1:jt)(kinds:(List Int)):Option (Int×Bool):=
  if(a1.Tag==(1:Int))then
  (some ((2:Int),((a1.Arg.Nodes.length:Int)==(0:Int))))
  else
  ((tJ a1.Arg kinds).bind fun r=>
  if(((decide (a1.Tag<(1:Int)))||(decide ((5:Int)<a1.Tag)))||(r.2 !=(0:Int)))then
  (some ((0:Int),false))
  else
  (if(((a1.Tag==(3:Int))&&(r.1 !=(2:Int)))&&(r.1 !=(0:Int)))then
  (some ((0:Int),false))
  else
  (if(decide ((4:Int)<=a1.Tag))then
  (some (r.1,true))
  else
  (some ((2:Int),true)))))

def ez(n:aq):Nat->Bool->Int->Option ((List Int)×Bool)
  |0,_,_=>none
  |n1+1,ok,i=>
    if(decide (i<(n.Kinds.length:Int)))then
    ((if ok then((di n.Kinds i).bind fun e=>
    some (decide ((1:Int)<=e)))else some false).bind fun t=>
    (if t then((di n.Kinds i).bind fun e1=>
    some (decide (e1<=(3:Int))))else some false).bind fun t1=>
    (ez n n1) t1 (IntKind.i64.wrap (i+(1:Int))))
    else
    (some (n.Kinds,((((ok&&(decide ((0:Int)<=n.Table)))&&(decide (n.Table<=(3:Int))))&&(decide ((1:Int)<=(n.Kinds.length:Int))))&&(decide ((n.Kinds.length:Int)<=(4:Int))))))

def eU(n:aq)(a1:(List Int)):Nat->(List Int)->Bool->Int->Option ((List Int)×Bool)
  |0,_,_,_=>none
  |n3+1,out3,ok1,i2=>
    if(decide (i2<(n.Aggs.length:Int)))then
    ((di n.Aggs i2).bind fun e4=>
    (lw e4 a1).bind fun r2=>
    (app out3 ([r2.1])).bind fun out4=>
    (eU n a1 n3) out4 (ok1&&r2.2) (IntKind.i64.wrap (i2+(1:Int))))
    else
    (some (out3,(((ok1&&(decide ((n.Keys.length:Int)<=(3:Int))))&&(decide ((n.Aggs.length:Int)<=(12:Int))))&&(decide ((0:Int)<(out3.length:Int))))))

def eV(n:aq)(a1:(List Int)):Nat->(List Int)->Int->Option ((List Int)×Bool)
  |0,_,_=>none
  |n2+1,out1,i1=>
    if(decide (i1<(n.Keys.length:Int)))then
    ((di n.Keys i1).bind fun e2=>
    if((decide (e2<(0:Int)))||(decide ((a1.length:Int)<=e2)))then
    (some ([],false))
    else
    ((di a1 e2).bind fun e3=>
    (app out1 ([e3])).bind fun out2=>
    (eV n a1 n2) out2 (IntKind.i64.wrap (i1+(1:Int)))))
    else
    (eU n a1 fm out1 true (0:Int))

def eT(n:aq)(a1:(List Int)):Nat->(List Int)->Bool->Int->Option ((List Int)×Bool)
  |0,_,_,_=>none
  |n4+1,out5,ok2,i3=>
    if(decide (i3<(n.Items.length:Int)))then
    ((di n.Items i3).bind fun e5=>
    (tJ e5 a1).bind fun r3=>
    (app out5 ([r3.1])).bind fun out6=>
    (eT n a1 n4) out6 (ok2&&(r3.2==(0:Int))) (IntKind.i64.wrap (i3+(1:Int))))
    else
    (some (out5,((ok2&&(decide ((1:Int)<=(out5.length:Int))))&&(decide ((out5.length:Int)<=(16:Int))))))

def jd(b:(List Int))(nx4:Nat->(List Int)->Bool->Option ((List Int)×Bool))(i4:Nat)(out7:List Int)(ok3:Bool)(k:Int):Option ((List Int)×Bool):=
  (app out7 ([k])).bind fun out8=>
  (if ok3 then((di b (i4:Int)).bind fun e7=>
  (if(!(e7==k))then((di b (i4:Int)).bind fun e8=>
  some (e8==(0:Int)))else some true).bind fun t3=>
  some t3)else some false).bind fun t2=>
  nx4 (i4+1) out8 t2

def dW(b:(List Int)):List Int->Nat->(List Int)->Bool->Option ((List Int)×Bool)
  |[],i4,out7,ok3=>
    some (out7,ok3)
  |e6::tl,i4,out7,ok3=>
    if(e6==(0:Int))then
    ((di b (i4:Int)).bind fun e9=>
    jd b (dW b tl) i4 out7 ok3 e9)
    else
    (jd b (dW b tl) i4 out7 ok3 e6)

def dV(n:aq)(a1:(List Int)):Nat->Bool->Int->Option ((List Int)×Bool)
  |0,_,_=>none
  |n5+1,ok4,i5=>
    if(decide (i5<(n.Order.length:Int)))then
    ((if ok4 then((di n.Order i5).bind fun e10=>
    some (decide ((0:Int)<=e10.Col)))else some false).bind fun t4=>
    (if t4 then((di n.Order i5).bind fun e11=>
    some (decide (e11.Col<(a1.length:Int))))else some false).bind fun t5=>
    (dV n a1 n5) t5 (IntKind.i64.wrap (i5+(1:Int))))
    else
    (some (a1,(((ok4&&(decide ((n.Order.length:Int)<=(3:Int))))&&(decide ((-1:Int)<=n.Limit)))&&(decide (n.Limit<=(2147483647:Int))))))

def bX(n:aq)(a1:(List Int))(b:(List Int)):Option ((List Int)×Bool):=
  if(n.Op==(1:Int))then
  (ez n fm true (0:Int))
  else
  (if(n.Op==(2:Int))then
  ((app ([]:List Int) a1).bind fun l=>
  (app l b).bind fun out=>
  (uJ n.Cond out).bind fun r=>
  some (out,r))
  else
  (if(n.Op==(3:Int))then
  ((uJ n.Cond a1).bind fun r1=>
  some (a1,r1))
  else
  (if(n.Op==(4:Int))then
  (eV n a1 fm ([]:List Int) (0:Int))
  else
  (if(n.Op==(5:Int))then
  (eT n a1 fm ([]:List Int) true (0:Int))
  else
  (if(n.Op==(6:Int))then
  (some (a1,true))
  else
  (if(n.Op==(7:Int))then
  (if((a1.length:Int) !=(b.length:Int))then
  (some ([],false))
  else
  (dW b a1 0 ([]:List Int) true))
  else
  (dV n a1 fm true (0:Int))))))))

def iu(l:cC)(at1:Int)(e1:aq)(a1:(List Int))(b1:(List Int)):Option ((List Int)×Bool):=
 (bX e1 a1 b1).bind fun r2=>
 if(((e1.Op==(8:Int))&&(at1 !=(IntKind.i64.wrap ((l.Nodes.length:Int)-(1:Int)))))||(decide ((16:Int)<(r2.1.length:Int))))then
 (some ([],false))
 else
 (some (r2.1,r2.2))

def fM(self__:cC->Int->Option ((List Int)×Bool))(l:cC)(at1:Int)(e1:aq)(a1:(List Int)):Option ((List Int)×Bool):=
  if(decide ((0:Int)<=e1.B))then
  ((self__ l e1.B).bind fun r3=>
  if(!r3.2)then
  (some ([],false))
  else
  (iu l at1 e1 a1 r3.1))
  else
  (iu l at1 e1 a1 ([]))

def cV:Nat->cC->Int->Option ((List Int)×Bool)
  |0,_,_=>none
  |fu+1,l,at1=>
    (lx l at1).bind fun r=>
    (if(!(r==(0:Int)))then((di l.Nodes at1).bind fun e=>
    (vP e).bind fun r1=>
    some (!r1))else some true).bind fun t=>
    if t then
    (some ([],false))
    else
    ((di l.Nodes at1).bind fun e1=>
    if(decide ((0:Int)<=e1.A))then
    (((cV fu) l e1.A).bind fun r4=>
    if(!r4.2)then
    (some ([],false))
    else
    (fM (cV fu) l at1 e1 r4.1))
    else
    (fM (cV fu) l at1 e1 ([])))

def mX(l:cC)(at1:Int):Option ((List Int)×Bool):=
 cV fm l at1

def ge(l:cC):List aq->Nat->Option Int
 |[],i=>
  (lx l (IntKind.i64.wrap ((l.Nodes.length:Int)-(1:Int)))).bind fun r=>
  if(r !=(l.Nodes.length:Int))then
  (some (IntKind.i64.wrap ((l.Nodes.length:Int)-(1:Int))))
  else
  (some (-1:Int))
 |e::tl,i=>
  (mX l (i:Int)).bind fun r1=>
  if(!r1.2)then
  (some (i:Int))
  else
  ((ge l tl) (i+1))

def sq(l:cC):Option Int:=
 if((decide ((l.Nodes.length:Int)<(1:Int)))||(decide ((60:Int)<(l.Nodes.length:Int))))then
 (some (0:Int))
 else
 (ge l l.Nodes 0)

def w8(l:cC):Option Bool:=
 (sq l).bind fun r=>
 some (decide (r<(0:Int)))

def py(nx:Option Bool)(e:(List ac)):List Int->Nat->Option Bool
 |[],i1=>
  nx
 |e1::tl1,i1=>
  (di e (i1:Int)).bind fun e2=>
  (d5 e2).bind fun r=>
  if((!r)||((e2.Kind !=(0:Int))&&(e2.Kind !=e1)))then
  (some false)
  else
  ((py nx e tl1) (i1+1))

def pz(kinds:(List Int)):List (List ac)->Option Bool
 |[]=>
  some true
 |e::tl=>
  if((e.length:Int) !=(kinds.length:Int))then
  (some false)
  else
  (py (pz kinds tl) e kinds 0)

def wl(l:(List (List ac)))(kinds:(List Int)):Option Bool:=
 if(decide ((12:Int)<(l.length:Int)))then
 (some false)
 else
 (pz kinds l)

def pD(l:cC)(b:dg):Nat->Int->Option Bool
  |0,_=>none
  |n+1,i=>
    if(decide (i<(l.Nodes.length:Int)))then
    ((di l.Nodes i).bind fun e=>
    (if(e.Op==(1:Int))then((if(!(decide ((b.Tables.length:Int)<=e.Table)))then((di b.Tables e.Table).bind fun e1=>
    (wl e1 e.Kinds).bind fun r=>
    some (!r))else some true).bind fun t1=>
    some t1)else some false).bind fun t=>
    if t then
    (some false)
    else
    ((pD l b n) (IntKind.i64.wrap (i+(1:Int)))))
    else
    (some true)

def CJ(l:cC)(b:dg):Option Bool:=
 pD l b fm (0:Int)

def lj(n:Int):Option ac:=
 some (⟨(2:Int),n,(0:Int),[]⟩:ac)

def qp(v:ac):Option Bool:=
 (d5 v).bind fun r=>
 some (r&&((v.Kind==(0:Int))||(v.Kind==(2:Int))))

def ow(high:Int)(low:Int)(b2:d8):Option d8:=
 some ({({({({b2 with D:=(b2.D.set (0:Int).toNat ((low).tmod (4294967296:Int)))}:d8)with D:=((({b2 with D:=(b2.D.set (0:Int).toNat ((low).tmod (4294967296:Int)))}:d8).D).set (1:Int).toNat ((low).fdiv (2^(min (Int.toNat (32:Int)) IntKind.u64.bits))))}:d8)with D:=((({({b2 with D:=(b2.D.set (0:Int).toNat ((low).tmod (4294967296:Int)))}:d8)with D:=((({b2 with D:=(b2.D.set (0:Int).toNat ((low).tmod (4294967296:Int)))}:d8).D).set (1:Int).toNat ((low).fdiv (2^(min (Int.toNat (32:Int)) IntKind.u64.bits))))}:d8).D).set (2:Int).toNat ((high).tmod (4294967296:Int)))}:d8)with D:=((({({({b2 with D:=(b2.D.set (0:Int).toNat ((low).tmod (4294967296:Int)))}:d8)with D:=((({b2 with D:=(b2.D.set (0:Int).toNat ((low).tmod (4294967296:Int)))}:d8).D).set (1:Int).toNat ((low).fdiv (2^(min (Int.toNat (32:Int)) IntKind.u64.bits))))}:d8)with D:=((({({b2 with D:=(b2.D.set (0:Int).toNat ((low).tmod (4294967296:Int)))}:d8)with D:=((({b2 with D:=(b2.D.set (0:Int).toNat ((low).tmod (4294967296:Int)))}:d8).D).set (1:Int).toNat ((low).fdiv (2^(min (Int.toNat (32:Int)) IntKind.u64.bits))))}:d8).D).set (2:Int).toNat ((high).tmod (4294967296:Int)))}:d8).D).set (3:Int).toNat ((high).fdiv (2^(min (Int.toNat (32:Int)) IntKind.u64.bits))))}:d8)

def sY(n:Int)(u:Int):Option d8:=
  if(decide (n<(0:Int)))then
  (if((IntKind.u64.wrap ((fx .xor .u64 (if IntKind.u64.signed then -1 else IntKind.u64.max) u)+(1:Int)))==(0:Int))then
  (ow (IntKind.u64.wrap ((fx .xor .u64 (if IntKind.u64.signed then -1 else IntKind.u64.max) (IntKind.u64.wrap n))+(1:Int))) (IntKind.u64.wrap ((fx .xor .u64 (if IntKind.u64.signed then -1 else IntKind.u64.max) u)+(1:Int))) (d8.mk (⟨(List.replicate 8 (0:Int)),false⟩:d8).D true))
  else
  (ow (fx .xor .u64 (if IntKind.u64.signed then -1 else IntKind.u64.max) (IntKind.u64.wrap n)) (IntKind.u64.wrap ((fx .xor .u64 (if IntKind.u64.signed then -1 else IntKind.u64.max) u)+(1:Int))) (d8.mk (⟨(List.replicate 8 (0:Int)),false⟩:d8).D true)))
  else
  (ow (IntKind.u64.wrap n) u (⟨(List.replicate 8 (0:Int)),false⟩:d8))

def gX(n:Int):Option d8:=
  if(decide (n<(0:Int)))then
  ((sY (-1:Int) (IntKind.u64.wrap n)).bind fun r=>
  some r)
  else
  ((sY (0:Int) (IntKind.u64.wrap n)).bind fun r1=>
  some r1)

def mh(a1:d8)(b:d8):Nat->Int->Option Bool
  |0,_=>none
  |n+1,i=>
    if(decide ((0:Int)<=i))then
    ((di a1.D i).bind fun e=>
    (di b.D i).bind fun e1=>
    if(e !=e1)then
    (some (decide (e<e1)))
    else
    ((mh a1 b n) (IntKind.i64.wrap (i-(1:Int)))))
    else
    (some false)

def tM(a1:d8)(b:d8):Option Bool:=
 mh a1 b fm (7:Int)

def tL(a1:d8):Option Bool:=
 some (decide (a1.D=(List.replicate 8 (0:Int))))

def iB(a2:d8)(b4:d8):Nat->Nat->Int->d8->Option d8
  |0,i,carry,out=>
    (if out.Below then((tL out).bind fun r=>
    some (!r))else some false).bind fun t=>
    some (d8.mk out.D t)
  |k1+1,i,carry,out=>
    if(a2.Below==b4.Below)then
    ((TU (i:Int) 8).bind fun u=>
    (di a2.D (i:Int)).bind fun e1=>
    (TU (i:Int) 8).bind fun u1=>
    (di b4.D (i:Int)).bind fun e2=>
    (TU (i:Int) 8).bind fun u2=>
    (iB a2 b4 k1) (i+1) (((IntKind.u64.wrap ((IntKind.u64.wrap (e1+e2))+carry))).fdiv (2^(min (Int.toNat (32:Int)) IntKind.u64.bits))) ({out with D:=(out.D.set (i:Int).toNat (((IntKind.u64.wrap ((IntKind.u64.wrap (e1+e2))+carry))).tmod (4294967296:Int)))}:d8))
    else
    ((TU (i:Int) 8).bind fun u3=>
    (di a2.D (i:Int)).bind fun e3=>
    (TU (i:Int) 8).bind fun u4=>
    (di b4.D (i:Int)).bind fun e4=>
    (TU (i:Int) 8).bind fun u5=>
    (iB a2 b4 k1) (i+1) (IntKind.u64.wrap ((1:Int)-(((IntKind.u64.wrap ((IntKind.u64.wrap ((IntKind.u64.wrap (e3+(4294967296:Int)))-e4))-carry))).fdiv (2^(min (Int.toNat (32:Int)) IntKind.u64.bits))))) ({out with D:=(out.D.set (i:Int).toNat (((IntKind.u64.wrap ((IntKind.u64.wrap ((IntKind.u64.wrap (e3+(4294967296:Int)))-e4))-carry))).tmod (4294967296:Int)))}:d8))

def je(a2:d8)(b4:d8):Option d8:=
 iB a2 b4 8 0 (0:Int) (⟨(List.replicate 8 (0:Int)),a2.Below⟩:d8)

def nm(a1:d8)(b:d8):Option d8:=
  (if(a1.Below !=b.Below)then((tM a1 b).bind fun r1=>
  some r1)else some false).bind fun t1=>
  if t1 then
  (je b a1)
  else
  (je a1 b)

def mi(a1:d8)(high:Int)(low:Int):Option (Int×Int×Bool):=
 some ((IntKind.i64.wrap high),low,((decide ((IntKind.i64.wrap high)<(0:Int)))==a1.Below))

def gu(a1:d8)(e:Int)(e1:Int)(e2:Int)(e3:Int):Nat->Nat->Option (Int×Int×Bool)
  |0,i=>
    if a1.Below then
    (if((IntKind.u64.wrap ((fx .xor .u64 (if IntKind.u64.signed then -1 else IntKind.u64.max) (IntKind.u64.wrap ((IntKind.u64.wrap (e2*2^(min (Int.toNat (32:Int)) IntKind.u64.bits)))+e3)))+(1:Int)))==(0:Int))then
    (mi a1 (IntKind.u64.wrap ((fx .xor .u64 (if IntKind.u64.signed then -1 else IntKind.u64.max) (IntKind.u64.wrap ((IntKind.u64.wrap (e*2^(min (Int.toNat (32:Int)) IntKind.u64.bits)))+e1)))+(1:Int))) (IntKind.u64.wrap ((fx .xor .u64 (if IntKind.u64.signed then -1 else IntKind.u64.max) (IntKind.u64.wrap ((IntKind.u64.wrap (e2*2^(min (Int.toNat (32:Int)) IntKind.u64.bits)))+e3)))+(1:Int))))
    else
    (mi a1 (fx .xor .u64 (if IntKind.u64.signed then -1 else IntKind.u64.max) (IntKind.u64.wrap ((IntKind.u64.wrap (e*2^(min (Int.toNat (32:Int)) IntKind.u64.bits)))+e1))) (IntKind.u64.wrap ((fx .xor .u64 (if IntKind.u64.signed then -1 else IntKind.u64.max) (IntKind.u64.wrap ((IntKind.u64.wrap (e2*2^(min (Int.toNat (32:Int)) IntKind.u64.bits)))+e3)))+(1:Int)))))
    else
    (mi a1 (IntKind.u64.wrap ((IntKind.u64.wrap (e*2^(min (Int.toNat (32:Int)) IntKind.u64.bits)))+e1)) (IntKind.u64.wrap ((IntKind.u64.wrap (e2*2^(min (Int.toNat (32:Int)) IntKind.u64.bits)))+e3)))
  |k1+1,i=>
    (di a1.D (i:Int)).bind fun e5=>
    if(e5 !=(0:Int))then
    (some ((0:Int),(0:Int),false))
    else
    ((gu a1 e e1 e2 e3 k1) (i+1))

def wo(a1:d8):Option (Int×Int×Bool):=
 (di a1.D (3:Int)).bind fun e=>
 (di a1.D (2:Int)).bind fun e1=>
 (di a1.D (1:Int)).bind fun e2=>
 (di a1.D (0:Int)).bind fun e3=>
 gu a1 e e1 e2 e3 (8-4) 4

def jy(a1:d8):Option (Int×Bool):=
 (wo a1).bind fun r=>
 some ((IntKind.i64.wrap r.2.1),(r.2.2&&(((r.1==(0:Int))&&(decide ((0:Int)<=(IntKind.i64.wrap r.2.1))))||((r.1==(-1:Int))&&(decide ((IntKind.i64.wrap r.2.1)<(0:Int)))))))

def sX(a1:d8):Option d8:=
  (if(!a1.Below)then((tL a1).bind fun r=>
  some (!r))else some false).bind fun t=>
  some (d8.mk a1.D t)

def jT(a1:d8)(b:d8)(nx:Nat->d8->Option d8)(i:Nat):Nat->Nat->Int->d8->Option d8
 |0,i1,carry,out1=>
  (TU (IntKind.i64.wrap ((i:Int)+(4:Int))) 8).bind fun u=>
  nx (i+1) ({out1 with D:=(out1.D.set (IntKind.i64.wrap ((i:Int)+(4:Int))).toNat carry)}:d8)
 |k3+1,i1,carry,out1=>
  (TU (IntKind.i64.wrap ((i:Int)+(i1:Int))) 8).bind fun u1=>
  (di out1.D (IntKind.i64.wrap ((i:Int)+(i1:Int)))).bind fun e2=>
  (di a1.D (i:Int)).bind fun e3=>
  (di b.D (i1:Int)).bind fun e4=>
  (TU (IntKind.i64.wrap ((i:Int)+(i1:Int))) 8).bind fun u2=>
  (jT a1 b nx i k3) (i1+1) (((IntKind.u64.wrap ((IntKind.u64.wrap (e2+(IntKind.u64.wrap (e3*e4))))+carry))).fdiv (2^(min (Int.toNat (32:Int)) IntKind.u64.bits))) ({out1 with D:=(out1.D.set (IntKind.i64.wrap ((i:Int)+(i1:Int))).toNat (((IntKind.u64.wrap ((IntKind.u64.wrap (e2+(IntKind.u64.wrap (e3*e4))))+carry))).tmod (4294967296:Int)))}:d8)

def fN(a1:d8)(b:d8):Nat->Nat->d8->Option d8
  |0,i,out=>
    (if(a1.Below !=b.Below)then((tL out).bind fun r=>
    some (!r))else some false).bind fun t=>
    some (d8.mk out.D t)
  |k1+1,i,out=>
    jT a1 b (fN a1 b k1) i 4 0 (0:Int) out

def uL(a1:d8)(b:d8):Option d8:=
 fN a1 b 4 0 (⟨(List.replicate 8 (0:Int)),false⟩:d8)

def nV(a1:d8)(b:d8):Option d8:=
 (di a1.D (1:Int)).bind fun e=>
 (di a1.D (0:Int)).bind fun e1=>
 (di b.D (1:Int)).bind fun e2=>
 (di b.D (0:Int)).bind fun e3=>
 (nz (IntKind.u64.wrap ((IntKind.u64.wrap (e2*2^(min (Int.toNat (32:Int)) IntKind.u64.bits)))+e3))).bind fun _=>
 some (⟨(((List.replicate 8 (0:Int)).set 0 (((IntKind.u64.wrap (((IntKind.u64.wrap ((IntKind.u64.wrap (e*2^(min (Int.toNat (32:Int)) IntKind.u64.bits)))+e1))).tdiv (IntKind.u64.wrap ((IntKind.u64.wrap (e2*2^(min (Int.toNat (32:Int)) IntKind.u64.bits)))+e3))))).tmod (4294967296:Int))).set 1 (((IntKind.u64.wrap (((IntKind.u64.wrap ((IntKind.u64.wrap (e*2^(min (Int.toNat (32:Int)) IntKind.u64.bits)))+e1))).tdiv (IntKind.u64.wrap ((IntKind.u64.wrap (e2*2^(min (Int.toNat (32:Int)) IntKind.u64.bits)))+e3))))).fdiv (2^(min (Int.toNat (32:Int)) IntKind.u64.bits)))),((a1.Below !=b.Below)&&((IntKind.u64.wrap (((IntKind.u64.wrap ((IntKind.u64.wrap (e*2^(min (Int.toNat (32:Int)) IntKind.u64.bits)))+e1))).tdiv (IntKind.u64.wrap ((IntKind.u64.wrap (e2*2^(min (Int.toNat (32:Int)) IntKind.u64.bits)))+e3)))) !=(0:Int)))⟩:d8)

def jU(op:Int)(a1:ac)(b:ac):Option (ac×Int):=
  (d5 a1).bind fun r=>
  (if(!(!r))then((d5 b).bind fun r1=>
  some (!r1))else some true).bind fun t=>
  if t then
  (some ((⟨(0:Int),(0:Int),(0:Int),[]⟩:ac),(120:Int)))
  else
  ((qp a1).bind fun r2=>
  (if(!(!r2))then((qp b).bind fun r3=>
  some (!r3))else some true).bind fun t1=>
  if t1 then
  (some ((⟨(0:Int),(0:Int),(0:Int),[]⟩:ac),(2:Int)))
  else
  (if((a1.Kind==(0:Int))||(b.Kind==(0:Int)))then
  (some ((⟨(0:Int),(0:Int),(0:Int),[]⟩:ac),(0:Int)))
  else
  (if(op==(43:Int))then
  ((gX a1.N).bind fun r4=>
  (gX b.N).bind fun r5=>
  (nm r4 r5).bind fun r6=>
  (jy r6).bind fun r7=>
  if(!r7.2)then
  (some ((⟨(0:Int),(0:Int),(0:Int),[]⟩:ac),(140:Int)))
  else
  ((lj r7.1).bind fun r8=>
  some (r8,(0:Int))))
  else
  (if(op==(45:Int))then
  ((gX a1.N).bind fun r9=>
  (gX b.N).bind fun r10=>
  (sX r10).bind fun r11=>
  (nm r9 r11).bind fun r12=>
  (jy r12).bind fun r13=>
  if(!r13.2)then
  (some ((⟨(0:Int),(0:Int),(0:Int),[]⟩:ac),(140:Int)))
  else
  ((lj r13.1).bind fun r14=>
  some (r14,(0:Int))))
  else
  (if(op==(42:Int))then
  ((gX a1.N).bind fun r15=>
  (gX b.N).bind fun r16=>
  (uL r15 r16).bind fun r17=>
  (jy r17).bind fun r18=>
  if(!r18.2)then
  (some ((⟨(0:Int),(0:Int),(0:Int),[]⟩:ac),(140:Int)))
  else
  ((lj r18.1).bind fun r19=>
  some (r19,(0:Int))))
  else
  (if(b.N==(0:Int))then
  (some ((⟨(0:Int),(0:Int),(0:Int),[]⟩:ac),(140:Int)))
  else
  ((gX a1.N).bind fun r20=>
  (gX b.N).bind fun r21=>
  (nV r20 r21).bind fun r22=>
  (jy r22).bind fun r23=>
  if(!r23.2)then
  (some ((⟨(0:Int),(0:Int),(0:Int),[]⟩:ac),(140:Int)))
  else
  ((lj r23.1).bind fun r24=>
  some (r24,(0:Int))))))))))

def lB(b:Bool):Option ac:=
 if b then
 (some (⟨(1:Int),(1:Int),(0:Int),[]⟩:ac))
 else
 (some (⟨(1:Int),(0:Int),(0:Int),[]⟩:ac))

def qG(a1:ac)(b:ac):Option Int:=
  (d5 a1).bind fun r=>
  (if(!(!r))then((d5 b).bind fun r1=>
  some (!r1))else some true).bind fun t=>
  if t then
  (some (120:Int))
  else
  (if((decide ((1:Int)<a1.Kind))||(decide ((1:Int)<b.Kind)))then
  (some (2:Int))
  else
  (some (0:Int)))

def jY(a1:ac):Option (ac×Int):=
  (qG a1 a1).bind fun r=>
  if((r !=(0:Int))||(a1.Kind==(0:Int)))then
  (some ((⟨(0:Int),(0:Int),(0:Int),[]⟩:ac),r))
  else
  ((lB (a1.N==(0:Int))).bind fun r1=>
  some (r1,(0:Int)))

def tQ(a1:ac)(b:ac):Option (ac×Int):=
  (qG a1 b).bind fun r=>
  (lB false).bind fun r1=>
  if(r !=(0:Int))then
  (some ((⟨(0:Int),(0:Int),(0:Int),[]⟩:ac),r))
  else
  (if((decide (a1=r1))||(decide (b=r1)))then
  (some (r1,(0:Int)))
  else
  (if((a1.Kind==(0:Int))||(b.Kind==(0:Int)))then
  (some ((⟨(0:Int),(0:Int),(0:Int),[]⟩:ac),(0:Int)))
  else
  ((lB true).bind fun r2=>
  some (r2,(0:Int)))))

def ye(a1:ac)(b:ac):Option (ac×Int):=
  (qG a1 b).bind fun r=>
  if(r !=(0:Int))then
  (some ((⟨(0:Int),(0:Int),(0:Int),[]⟩:ac),r))
  else
  ((jY a1).bind fun r1=>
  (jY b).bind fun r2=>
  (tQ r1.1 r2.1).bind fun r3=>
  (jY r3.1).bind fun r4=>
  some (r4.1,r4.2))

def tP(a1:ac)(b:ac):Option Int:=
  (d5 a1).bind fun r=>
  (if(!(!r))then((d5 b).bind fun r1=>
  some (!r1))else some true).bind fun t=>
  if t then
  (some (120:Int))
  else
  ((m4 a1).bind fun r2=>
  (if(!(!r2))then((m4 b).bind fun r3=>
  some (!r3))else some true).bind fun t1=>
  if(t1||(((a1.Kind !=(0:Int))&&(b.Kind !=(0:Int)))&&(a1.Kind !=b.Kind)))then
  (some (2:Int))
  else
  (some (0:Int)))

def mq(a1:ac)(b:ac):Nat->Int->Option Int
  |0,_=>none
  |n+1,i=>
    if((decide (i<(a1.S.length:Int)))&&(decide (i<(b.S.length:Int))))then
    ((OJ a1.S i).bind fun b1=>
    (OJ b.S i).bind fun b2=>
    if(b1 !=b2)then
    ((OJ a1.S i).bind fun b3=>
    (OJ b.S i).bind fun b4=>
    if(decide (b3<b4))then
    (some (-1:Int))
    else
    (some (1:Int)))
    else
    ((mq a1 b n) (IntKind.i64.wrap (i+(1:Int)))))
    else
    (if((a1.S.length:Int) !=(b.S.length:Int))then
    (if(decide ((a1.S.length:Int)<(b.S.length:Int)))then
    (some (-1:Int))
    else
    (some (1:Int)))
    else
    (some (0:Int)))

def pF(a1:ac)(b:ac):Option Int:=
  (m4 a1).bind fun r=>
  (if(!(!r))then((m4 b).bind fun r1=>
  some (!r1))else some true).bind fun t=>
  if t then
  (some (0:Int))
  else
  (if(a1.Kind !=b.Kind)then
  (if(decide (a1.Kind<b.Kind))then
  (some (-1:Int))
  else
  (some (1:Int)))
  else
  (if(a1.N !=b.N)then
  (if(decide (a1.N<b.N))then
  (some (-1:Int))
  else
  (some (1:Int)))
  else
  (mq a1 b fm (0:Int))))

def ss(a1:ac)(b:ac):Option (ac×Int):=
  (tP a1 b).bind fun r=>
  if(((r !=(0:Int))||(a1.Kind==(0:Int)))||(b.Kind==(0:Int)))then
  (some ((⟨(0:Int),(0:Int),(0:Int),[]⟩:ac),r))
  else
  ((pF a1 b).bind fun r1=>
  (lB (r1==(0:Int))).bind fun r2=>
  some (r2,(0:Int)))

def np(a1:ac)(b:ac):Option (ac×Int):=
  (tP a1 b).bind fun r=>
  if(((r !=(0:Int))||(a1.Kind==(0:Int)))||(b.Kind==(0:Int)))then
  (some ((⟨(0:Int),(0:Int),(0:Int),[]⟩:ac),r))
  else
  ((pF a1 b).bind fun r1=>
  (lB (decide (r1<(0:Int)))).bind fun r2=>
  some (r2,(0:Int)))

def Ax(tag:Int)(a1:ac)(b:ac):Option (ac×Int):=
  if(tag==(16:Int))then
  ((ss a1 b).bind fun r=>
  some (r.1,r.2))
  else
  (if(tag==(18:Int))then
  ((np a1 b).bind fun r1=>
  some (r1.1,r1.2))
  else
  (if(tag==(20:Int))then
  ((np b a1).bind fun r2=>
  some (r2.1,r2.2))
  else
  (if(tag==(17:Int))then
  ((ss a1 b).bind fun r3=>
  (jY r3.1).bind fun r4=>
  some (r4.1,r3.2))
  else
  (if(tag==(19:Int))then
  ((np b a1).bind fun r5=>
  (jY r5.1).bind fun r6=>
  some (r6.1,r5.2))
  else
  ((np a1 b).bind fun r7=>
  (jY r7.1).bind fun r8=>
  some (r8.1,r7.2))))))

def CM(tag:Int)(a1:ac)(b:ac):Option (ac×Int):=
  if(tag==(4:Int))then
  ((lj (0:Int)).bind fun r=>
  (jU (45:Int) r a1).bind fun r1=>
  some (r1.1,r1.2))
  else
  (if(tag==(12:Int))then
  ((jU (43:Int) a1 b).bind fun r2=>
  some (r2.1,r2.2))
  else
  (if(tag==(13:Int))then
  ((jU (45:Int) a1 b).bind fun r3=>
  some (r3.1,r3.2))
  else
  (if(tag==(14:Int))then
  ((jU (42:Int) a1 b).bind fun r4=>
  some (r4.1,r4.2))
  else
  (if(tag==(15:Int))then
  ((jU (47:Int) a1 b).bind fun r5=>
  some (r5.1,r5.2))
  else
  (if(tag==(5:Int))then
  ((jY a1).bind fun r6=>
  some (r6.1,r6.2))
  else
  (if(tag==(22:Int))then
  ((tQ a1 b).bind fun r7=>
  some (r7.1,r7.2))
  else
  (if(tag==(23:Int))then
  ((ye a1 b).bind fun r8=>
  some (r8.1,r8.2))
  else
  (if(tag==(6:Int))then
  ((lB (a1.Kind==(0:Int))).bind fun r9=>
  some (r9,(0:Int)))
  else
  (if(tag==(7:Int))then
  ((lB (a1.Kind !=(0:Int))).bind fun r10=>
  some (r10,(0:Int)))
  else
  ((Ax tag a1 b).bind fun r11=>
  some (r11.1,r11.2)))))))))))

def rh(nx1:(List ac)->ac->Option (ac×Int))(e2:bZ)(own:List ac)(x1:ac)(e5:ac)(b4:ac):Option (ac×Int):=
  (CM e2.Tag e5 b4).bind fun r2=>
  if(r2.2==(140:Int))then
  (some ((⟨(0:Int),(0:Int),(0:Int),[]⟩:ac),r2.2))
  else
  (if(r2.2 !=(0:Int))then
  (some ((⟨(0:Int),(0:Int),(0:Int),[]⟩:ac),(201:Int)))
  else
  ((app own ([r2.1])).bind fun own3=>
  nx1 own3 x1))

def dM(r:(List ac)):List bZ->(List ac)->ac->Option (ac×Int)
  |[],own,x1=>
    (di own (IntKind.i64.wrap ((own.length:Int)-(1:Int)))).bind fun e3=>
    some (e3,(0:Int))
  |e2::tl1,own,x1=>
    if(e2.Tag==(1:Int))then
    ((app own ([e2.Value])).bind fun own1=>
    (dM r tl1) own1 x1)
    else
    (if(e2.Tag==(2:Int))then
    ((di r e2.Col).bind fun e4=>
    (app own ([e4])).bind fun own2=>
    (dM r tl1) own2 x1)
    else
    ((di own e2.L).bind fun e5=>
    if(decide ((0:Int)<=e2.R))then
    ((di own e2.R).bind fun e6=>
    rh (dM r tl1) e2 own x1 e5 e6)
    else
    (rh (dM r tl1) e2 own x1 e5 (⟨(0:Int),(0:Int),(0:Int),[]⟩:ac))))

def rf(e:cy)(r:(List ac)):List bZ->ac->Option (ac×Int)
  |[],x=>
    dM r e.Nodes ([]:List ac) x
  |e1::tl,x=>
    (if(e1.Tag==(2:Int))then((if(!(decide ((r.length:Int)<=e1.Col)))then((di r e1.Col).bind fun e7=>
    (m4 e7).bind fun r3=>
    some (!r3))else some true).bind fun t1=>
    some t1)else some false).bind fun t=>
    if t then
    (some ((⟨(0:Int),(0:Int),(0:Int),[]⟩:ac),(2:Int)))
    else
    ((rf e r tl) x)

def qm(e:cy)(r:(List ac)):Option (ac×Int):=
 (uK e).bind fun r1=>
 if(!r1)then
 (some ((⟨(0:Int),(0:Int),(0:Int),[]⟩:ac),(200:Int)))
 else
 (rf e r e.Nodes (⟨(0:Int),(0:Int),(0:Int),[]⟩:ac))

def y8(v:ac):Option Bool:=
 some ((v.Kind==(1:Int))&&(v.N==(1:Int)))

def qj(n:Int):Nat->(List ac)->Int->Option (List ac)
  |0,_,_=>none
  |n1+1,out,i=>
    if(decide (i<n))then
    ((app out ([(⟨(0:Int),(0:Int),(0:Int),[]⟩:ac)])).bind fun out1=>
    (qj n n1) out1 (IntKind.i64.wrap (i+(1:Int))))
    else
    (some out)

def uH(n:Int):Option (List ac):=
 qj n fm ([]:List ac) (0:Int)

def ra(nx1:(List (List ac))->Int->Bool->Option ((List (List ac))×Int))(out1:List (List ac))(found:Bool)(r2:(List ac))(r3:ac×Int)(fault2:Int):Option ((List (List ac))×Int):=
  (y8 r3.1).bind fun r4=>
  if r4 then
  ((app out1 ([r2])).bind fun out3=>
  nx1 out3 fault2 true)
  else
  (nx1 out1 fault2 found)

def kS(width:Int)(on:cy)(left:Bool)(nx:(List (List ac))->Int->Option ((List (List ac))×Int))(e:(List ac)):List (List ac)->(List (List ac))->Int->Bool->Option ((List (List ac))×Int)
  |[],out1,fault1,found=>
    if(left&&(!found))then
    ((uH width).bind fun r=>
    (ni e r).bind fun r1=>
    (app out1 ([r1])).bind fun out2=>
    nx out2 fault1)
    else
    (nx out1 fault1)
  |e1::tl1,out1,fault1,found=>
    (ni e e1).bind fun r2=>
    (qm on r2).bind fun r3=>
    if(r3.2 !=(0:Int))then
    (ra (kS width on left nx e tl1) out1 found r2 r3 (140:Int))
    else
    (ra (kS width on left nx e tl1) out1 found r2 r3 fault1)

def mf(b:(List (List ac)))(width:Int)(on:cy)(left:Bool):List (List ac)->(List (List ac))->Int->Option ((List (List ac))×Int)
 |[],out,fault=>
  some (out,fault)
 |e::tl,out,fault=>
  kS width on left (mf b width on left tl) e b out fault false

def y9(a1:(List (List ac)))(b:(List (List ac)))(width:Int)(on:cy)(left:Bool):Option ((List (List ac))×Int):=
 if(decide ((40000:Int)<(IntKind.i64.wrap ((a1.length:Int)*(b.length:Int)))))then
 (some ([],(3:Int)))
 else
 (mf b width on left a1 ([]:List (List ac)) (0:Int))

def pc(nx:(List (List ac))->Int->Option ((List (List ac))×Int))(e:(List ac))(out:List (List ac))(r:ac×Int)(fault1:Int):Option ((List (List ac))×Int):=
  (y8 r.1).bind fun r1=>
  if r1 then
  ((app out ([e])).bind fun out1=>
  nx out1 fault1)
  else
  (nx out fault1)

def jj(on:cy):List (List ac)->(List (List ac))->Int->Option ((List (List ac))×Int)
 |[],out,fault=>
  some (out,fault)
 |e::tl,out,fault=>
  (qm on e).bind fun r=>
  if(r.2 !=(0:Int))then
  (pc (jj on tl) e out r (140:Int))
  else
  (pc (jj on tl) e out r fault)

def za(a1:(List (List ac)))(on:cy):Option ((List (List ac))×Int):=
 jj on a1 ([]:List (List ac)) (0:Int)

def pg(nx:(List (List ac))->Option (List (List ac)))(next1:List (List ac)):Option (List (List ac)):=
 nx next1

def pf(nx1:(List (List ac))->Bool->Option (List (List ac)))(e1:(List ac))(next3:List (List ac))(done1:Bool):Option (List (List ac)):=
 (app next3 ([e1])).bind fun next4=>
 nx1 next4 done1

def iA(nx:(List (List ac))->Option (List (List ac)))(e:(List ac)):List (List ac)->(List (List ac))->Bool->Option (List (List ac))
  |[],next,done=>
    if(!done)then
    ((app next ([e])).bind fun next2=>
    pg nx next2)
    else
    (pg nx next)
  |e1::tl1,next,done=>
    (if(!done)then((mg e e1).bind fun r=>
    some (decide (r<(0:Int))))else some false).bind fun t=>
    if t then
    ((app next ([e])).bind fun next5=>
    pf (iA nx e tl1) e1 next5 true)
    else
    (pf (iA nx e tl1) e1 next done)

def ke:List (List ac)->(List (List ac))->Option (List (List ac))
 |[],out=>
  some out
 |e::tl,out=>
  iA (ke tl) e out ([]:List (List ac)) false

def sW(l:(List (List ac))):Option (List (List ac)):=
 ke l ([])

def jS(r:(List (List ac))):List (List ac)->Nat->(List (List ac))->Option (List (List ac))
  |[],i,out=>
    some out
  |e::tl,i,out=>
    (if(!((i:Int)==(0:Int)))then((di r (IntKind.i64.wrap ((i:Int)-(1:Int)))).bind fun e1=>
    (mg e1 e).bind fun r1=>
    some (r1 !=(0:Int)))else some true).bind fun t=>
    if t then
    ((app out ([e])).bind fun out1=>
    (jS r tl) (i+1) out1)
    else
    ((jS r tl) (i+1) out)

def qo(l:(List (List ac))):Option (List (List ac)):=
 (sW l).bind fun r=>
 jS r r 0 ([]:List (List ac))

def ri(r:(List ac)):List Int->(List ac)->Option (List ac)
 |[],out=>
  some out
 |e::tl,out=>
  (di r e).bind fun e1=>
  (app out ([e1])).bind fun out1=>
  (ri r tl) out1

def tK(r:(List ac))(columns:(List Int)):Option (List ac):=
 ri r columns ([]:List ac)

def lz(columns:(List Int))(nx1:(List eg)->Option (List eg))(e1:(List ac))(out:List eg):List (List ac)->(List (List ac))->Option (List eg)
  |[],rows=>
    (sW rows).bind fun r1=>
    (app out ([(⟨e1,r1⟩:eg)])).bind fun out1=>
    nx1 out1
  |e2::tl2,rows=>
    (tK e2 columns).bind fun r2=>
    (mg r2 e1).bind fun r3=>
    if(r3==(0:Int))then
    ((app rows ([e2])).bind fun rows1=>
    (lz columns nx1 e1 out tl2) rows1)
    else
    ((lz columns nx1 e1 out tl2) rows)

def lA(l:(List (List ac)))(columns:(List Int)):List (List ac)->(List eg)->Option (List eg)
 |[],out=>
  some out
 |e1::tl1,out=>
  lz columns (lA l columns tl1) e1 out l ([]:List (List ac))

def mN(l:(List (List ac)))(columns:(List Int)):List (List ac)->(List (List ac))->Option (List eg)
 |[],keys=>
  (qo keys).bind fun r=>
  lA l columns r ([]:List eg)
 |e::tl,keys=>
  (tK e columns).bind fun r4=>
  (app keys ([r4])).bind fun keys1=>
  (mN l columns tl) keys1

def vz(l:(List (List ac)))(columns:(List Int)):Option (List eg):=
 mN l columns l ([]:List (List ac))

def sr(v:ac):Option Bool:=
 (d5 v).bind fun r=>
 some (r&&((v.Kind==(0:Int))||(v.Kind==(4:Int))))

def yd(a1:d8):Option (ac×Int):=
 (wo a1).bind fun r=>
 if(!r.2.2)then
 (some ((⟨(0:Int),(0:Int),(0:Int),[]⟩:ac),(140:Int)))
 else
 (some ((⟨(4:Int),r.1,r.2.1,[]⟩:ac),(0:Int)))

def tN(s:ac)(v:ac):Option (ac×Int):=
  (d5 s).bind fun r=>
  (if(!(!r))then((d5 v).bind fun r1=>
  some (!r1))else some true).bind fun t=>
  if t then
  (some ((⟨(0:Int),(0:Int),(0:Int),[]⟩:ac),(120:Int)))
  else
  ((sr s).bind fun r2=>
  (if(!(!r2))then((qp v).bind fun r3=>
  some (!r3))else some true).bind fun t1=>
  if t1 then
  (some ((⟨(0:Int),(0:Int),(0:Int),[]⟩:ac),(2:Int)))
  else
  (if(v.Kind==(0:Int))then
  (some (s,(0:Int)))
  else
  (if(s.Kind==(0:Int))then
  ((gX v.N).bind fun r4=>
  (yd r4).bind fun r5=>
  some (r5.1,r5.2))
  else
  ((sY s.N s.U).bind fun r6=>
  (gX v.N).bind fun r7=>
  (nm r6 r7).bind fun r8=>
  (yd r8).bind fun r9=>
  some (r9.1,r9.2)))))

def vQ(s:ac):Option (ac×Int):=
  (d5 s).bind fun r=>
  if(!r)then
  (some ((⟨(0:Int),(0:Int),(0:Int),[]⟩:ac),(120:Int)))
  else
  ((sr s).bind fun r1=>
  if(!r1)then
  (some ((⟨(0:Int),(0:Int),(0:Int),[]⟩:ac),(2:Int)))
  else
  (if(s.Kind==(0:Int))then
  (some (s,(0:Int)))
  else
  ((sY s.N s.U).bind fun r2=>
  (jy r2).bind fun r3=>
  if(!r3.2)then
  (some ((⟨(0:Int),(0:Int),(0:Int),[]⟩:ac),(140:Int)))
  else
  ((lj r3.1).bind fun r4=>
  some (r4,(0:Int))))))

def ir(nx:Int->Int->ac->ac->ac->Option (ac×Int))(n1:Int)(fault1:Int)(x1:ac)(sum1:ac)(best1:ac):Option (ac×Int):=
 nx n1 fault1 x1 sum1 best1

def mC(a1:jt)(nx:Int->Int->ac->ac->ac->Option (ac×Int))(n:Int)(fault:Int)(x:ac)(best:ac)(r3:ac×Int)(sum2:ac):Option (ac×Int):=
  (if(!((IntKind.i64.wrap (n+(1:Int)))==(1:Int)))then((if(a1.Tag==(4:Int))then((mZ r3.1 best).bind fun r4=>
  some (decide (r4<(0:Int))))else some false).bind fun t1=>
  some t1)else some true).bind fun t=>
  (if(!t)then((if(a1.Tag==(5:Int))then((mZ r3.1 best).bind fun r5=>
  some (decide ((0:Int)<r5)))else some false).bind fun t3=>
  some t3)else some true).bind fun t2=>
  if t2 then
  (ir nx (IntKind.i64.wrap (n+(1:Int))) fault x sum2 r3.1)
  else
  (ir nx (IntKind.i64.wrap (n+(1:Int))) fault x sum2 best)

def ft(a1:jt):List (List ac)->Int->Int->ac->ac->ac->Option (ac×Int)
  |[],n,fault,x,sum,best=>
    if(fault !=(0:Int))then
    (some ((⟨(0:Int),(0:Int),(0:Int),[]⟩:ac),fault))
    else
    (if(a1.Tag==(2:Int))then
    ((lj n).bind fun r1=>
    some (r1,(0:Int)))
    else
    (if(a1.Tag==(3:Int))then
    ((vQ sum).bind fun r2=>
    some (r2.1,r2.2))
    else
    (some (best,(0:Int)))))
  |e::tl,n,fault,x,sum,best=>
    (qm a1.Arg e).bind fun r3=>
    if(r3.2==(140:Int))then
    (ir (ft a1 tl) n r3.2 x sum best)
    else
    (if((r3.2 !=(0:Int))||(((a1.Tag==(3:Int))&&(r3.1.Kind !=(0:Int)))&&(r3.1.Kind !=(2:Int))))then
    (some ((⟨(0:Int),(0:Int),(0:Int),[]⟩:ac),(2:Int)))
    else
    (if(r3.1.Kind==(0:Int))then
    (ir (ft a1 tl) n fault x sum best)
    else
    (if(a1.Tag==(3:Int))then
    ((tN sum r3.1).bind fun r6=>
    mC a1 (ft a1 tl) n fault x best r3 r6.1)
    else
    (mC a1 (ft a1 tl) n fault x best r3 sum))))

def pe(a1:jt)(l:(List (List ac))):Option (ac×Int):=
  if(a1.Tag==(1:Int))then
  ((lj (l.length:Int)).bind fun r=>
  some (r,(0:Int)))
  else
  (ft a1 l (0:Int) (0:Int) (⟨(0:Int),(0:Int),(0:Int),[]⟩:ac) (⟨(0:Int),(0:Int),(0:Int),[]⟩:ac) (⟨(0:Int),(0:Int),(0:Int),[]⟩:ac))

def qk(nx1:(List ac)->Int->Option ((List (List ac))×Int))(x:List ac)(r2:ac×Int)(fault2:Int):Option ((List (List ac))×Int):=
 (app x ([r2.1])).bind fun x1=>
 nx1 x1 fault2

def jO(nx:(List (List ac))->Int->Option ((List (List ac))×Int))(e:eg)(out:List (List ac)):List jt->(List ac)->Int->Option ((List (List ac))×Int)
 |[],x,fault1=>
  (app out ([x])).bind fun out1=>
  nx out1 fault1
 |e1::tl1,x,fault1=>
  (pe e1 e.Rows).bind fun r2=>
  if(r2.2 !=(0:Int))then
  (qk (jO nx e out tl1) x r2 (140:Int))
  else
  (qk (jO nx e out tl1) x r2 fault1)

def jP(aggs:(List jt)):List eg->(List (List ac))->Int->Option ((List (List ac))×Int)
 |[],out,fault=>
  some (out,fault)
 |e::tl,out,fault=>
  (ni e.Key ([])).bind fun r1=>
  jO (jP aggs tl) e out aggs r1 fault

def nP(aggs:(List jt))(groups:(List eg)):Option ((List (List ac))×Int):=
 jP aggs groups ([]:List (List ac)) (0:Int)

def w7(a1:(List (List ac)))(keys:(List Int))(aggs:(List jt)):Option ((List (List ac))×Int):=
 (vz a1 keys).bind fun r=>
 if(((keys.length:Int)==(0:Int))&&((r.length:Int)==(0:Int)))then
 (nP aggs ([(⟨[],[]⟩:eg)]))
 else
 (nP aggs r)

def nO(nx1:(List ac)->Int->Option ((List (List ac))×Int))(x:List ac)(r:ac×Int)(fault2:Int):Option ((List (List ac))×Int):=
 (app x ([r.1])).bind fun x1=>
 nx1 x1 fault2

def iJ(nx:(List (List ac))->Int->Option ((List (List ac))×Int))(e:(List ac))(out:List (List ac)):List cy->(List ac)->Int->Option ((List (List ac))×Int)
 |[],x,fault1=>
  (app out ([x])).bind fun out1=>
  nx out1 fault1
 |e1::tl1,x,fault1=>
  (qm e1 e).bind fun r=>
  if(r.2 !=(0:Int))then
  (nO (iJ nx e out tl1) x r (140:Int))
  else
  (nO (iJ nx e out tl1) x r fault1)

def jx(items:(List cy)):List (List ac)->(List (List ac))->Int->Option ((List (List ac))×Int)
 |[],out,fault=>
  some (out,fault)
 |e::tl,out,fault=>
  iJ (jx items tl) e out items ([]:List ac) fault

def xC(a1:(List (List ac)))(items:(List cy)):Option ((List (List ac))×Int):=
 jx items a1 ([]:List (List ac)) (0:Int)

def ql(nx:Option Bool)(n:Int):Option Bool:=
 if(n !=(0:Int))then
 (some (decide (n<(0:Int))))
 else
 (nx)

def kX(a1:(List ac))(b:(List ac)):List jG->Option Bool
 |[]=>
  (mg a1 b).bind fun r=>
  some (decide (r<(0:Int)))
 |e::tl=>
  (di a1 e.Col).bind fun e1=>
  (di b e.Col).bind fun e2=>
  (mZ e1 e2).bind fun r1=>
  if e.Desc then
  (ql (kX a1 b tl) (IntKind.i64.wrap ((0:Int)-r1)))
  else
  (ql (kX a1 b tl) r1)

def uI(a1:(List ac))(b:(List ac))(order:(List jG)):Option Bool:=
 kX a1 b order

def pC(nx:(List (List ac))->Option (List (List ac)))(e:(List ac))(at1:Int):Nat->(List (List ac))->Int->Option (List (List ac))
  |0,_,_=>none
  |n1+1,out2,k=>
    if(decide (at1<k))then
    ((di out2 (IntKind.i64.wrap (k-(1:Int)))).bind fun e2=>
    (di out2 k).bind fun e3=>
    (some (out2.set k.toNat e2)).bind fun st=>
    (pC nx e at1 n1) st (IntKind.i64.wrap (k-(1:Int))))
    else
    ((di out2 at1).bind fun e4=>
    (some (out2.set at1.toNat e)).bind fun st1=>
    nx st1)

def q7(order:(List jG))(nx:(List (List ac))->Option (List (List ac)))(e:(List ac))(out:List (List ac)):Nat->Int->Option (List (List ac))
  |0,_=>none
  |n+1,at1=>
    (if(decide (at1<(out.length:Int)))then((di out at1).bind fun e1=>
    (uI e e1 order).bind fun r=>
    some (!r))else some false).bind fun t=>
    if t then
    ((q7 order nx e out n) (IntKind.i64.wrap (at1+(1:Int))))
    else
    ((app out ([[]])).bind fun out1=>
    pC nx e at1 fm out1 (IntKind.i64.wrap ((out1.length:Int)-(1:Int))))

def me(order:(List jG))(limit:Int):List (List ac)->(List (List ac))->Option (List (List ac))
  |[],out=>
    if((decide ((0:Int)<=limit))&&(decide (limit<(out.length:Int))))then
    ((eS out 0 limit).bind fun y=>
    some y)
    else
    (some out)
  |e::tl,out=>
    q7 order (me order limit tl) e out fm (0:Int)

def jN(l:(List (List ac)))(order:(List jG))(limit:Int):Option (List (List ac)):=
 me order limit l ([]:List (List ac))

def y7(n:aq)(base:dg)(a1:(List (List ac)))(b:(List (List ac)))(width:Int):Option ((List (List ac))×Int):=
  if(n.Op==(1:Int))then
  ((di base.Tables n.Table).bind fun e=>
  if((0:Int) !=(0:Int))then
  (some ([],(0:Int)))
  else
  (if(decide ((8000:Int)<(e.length:Int)))then
  (some ([],(3:Int)))
  else
  ((jN e ([]) (-1:Int)).bind fun r=>
  some (r,(0:Int)))))
  else
  (if(n.Op==(2:Int))then
  ((y9 a1 b width n.Cond n.Left).bind fun r1=>
  if(r1.2 !=(0:Int))then
  (some ([],r1.2))
  else
  (if(decide ((8000:Int)<(r1.1.length:Int)))then
  (some ([],(3:Int)))
  else
  ((jN r1.1 ([]) (-1:Int)).bind fun r2=>
  some (r2,(0:Int)))))
  else
  (if(n.Op==(3:Int))then
  ((za a1 n.Cond).bind fun r3=>
  if(r3.2 !=(0:Int))then
  (some ([],r3.2))
  else
  (if(decide ((8000:Int)<(r3.1.length:Int)))then
  (some ([],(3:Int)))
  else
  ((jN r3.1 ([]) (-1:Int)).bind fun r4=>
  some (r4,(0:Int)))))
  else
  (if(n.Op==(4:Int))then
  ((w7 a1 n.Keys n.Aggs).bind fun r5=>
  if(r5.2 !=(0:Int))then
  (some ([],r5.2))
  else
  (if(decide ((8000:Int)<(r5.1.length:Int)))then
  (some ([],(3:Int)))
  else
  ((jN r5.1 ([]) (-1:Int)).bind fun r6=>
  some (r6,(0:Int)))))
  else
  (if(n.Op==(5:Int))then
  ((xC a1 n.Items).bind fun r7=>
  if(r7.2 !=(0:Int))then
  (some ([],r7.2))
  else
  (if(decide ((8000:Int)<(r7.1.length:Int)))then
  (some ([],(3:Int)))
  else
  ((jN r7.1 ([]) (-1:Int)).bind fun r8=>
  some (r8,(0:Int)))))
  else
  (if(n.Op==(6:Int))then
  ((qo a1).bind fun r9=>
  if((0:Int) !=(0:Int))then
  (some ([],(0:Int)))
  else
  (if(decide ((8000:Int)<(r9.length:Int)))then
  (some ([],(3:Int)))
  else
  ((jN r9 ([]) (-1:Int)).bind fun r10=>
  some (r10,(0:Int)))))
  else
  (if(n.Op==(7:Int))then
  ((app ([]:List (List ac)) a1).bind fun l7=>
  (app l7 b).bind fun out=>
  if((0:Int) !=(0:Int))then
  (some ([],(0:Int)))
  else
  (if(decide ((8000:Int)<(out.length:Int)))then
  (some ([],(3:Int)))
  else
  ((jN out ([]) (-1:Int)).bind fun r11=>
  some (r11,(0:Int)))))
  else
  (if(n.Op==(8:Int))then
  ((jN a1 n.Order n.Limit).bind fun r12=>
  some (r12,(0:Int)))
  else
  (if((0:Int) !=(0:Int))then
  (some ([],(0:Int)))
  else
  (if(decide ((8000:Int)<(([]:List (List ac)).length:Int)))then
  (some ([],(3:Int)))
  else
  ((jN ([]:List (List ac)) ([]) (-1:Int)).bind fun r13=>
  some (r13,(0:Int))))))))))))

def q8(base:dg)(nx:(List (List (List ac)))->Int->Option ((List (List ac))×Int))(all:List (List (List ac)))(i:Int)(e:aq)(a1:(List (List ac)))(b1:(List (List ac)))(width:Int):Option ((List (List ac))×Int):=
  (y7 e base a1 b1 width).bind fun r=>
  if(r.2 !=(0:Int))then
  (some ([],r.2))
  else
  ((app all ([r.1])).bind fun all1=>
  nx all1 (IntKind.i64.wrap (i+(1:Int))))

def q9(l:cC)(base:dg)(nx:(List (List (List ac)))->Int->Option ((List (List ac))×Int))(all:List (List (List ac)))(i:Int)(e:aq)(a1:(List (List ac))):Option ((List (List ac))×Int):=
  if(decide ((0:Int)<=e.B))then
  ((di all e.B).bind fun e1=>
  (mX l e.B).bind fun r1=>
  q8 base nx all i e a1 e1 (r1.1.length:Int))
  else
  (q8 base nx all i e a1 ([]) (0:Int))

def jb(l:cC)(base:dg):Nat->(List (List (List ac)))->Int->Option ((List (List ac))×Int)
  |0,_,_=>none
  |n+1,all,i=>
    if(decide (i<(l.Nodes.length:Int)))then
    ((di l.Nodes i).bind fun e=>
    if(decide ((0:Int)<=e.A))then
    ((di all e.A).bind fun e2=>
    q9 l base (jb l base n) all i e e2)
    else
    (q9 l base (jb l base n) all i e ([])))
    else
    ((di all (IntKind.i64.wrap ((all.length:Int)-(1:Int)))).bind fun e3=>
    some (e3,(0:Int)))

def CI(l:cC)(base:dg):Option ((List (List ac))×Int):=
 jb l base fm ([]:List (List (List ac))) (0:Int)

def ga(l:cC)(b:dg)(r3:dg)(r4:(List (List ac))×Int)(r5:Bool):List (List (List ac))->Nat->Option Bool
  |[],i=>
    (w8 l).bind fun r6=>
    if(!r6)then
    (some ((((r4.1.length:Int)==(0:Int))&&(r4.2==(230:Int)))&&(!r5)))
    else
    ((CJ l b).bind fun r7=>
    if(!r7)then
    (some ((((r4.1.length:Int)==(0:Int))&&(r4.2==(250:Int)))&&(!r5)))
    else
    ((CI l b).bind fun r8=>
    (if(r5&&(r4.2==r8.2))then((wn r4.1 r8.1).bind fun r9=>
    some r9)else some false).bind fun t1=>
    some t1))
  |e::tl,i=>
    (AA e).bind fun r10=>
    (if(r10==(0:Int))then((di r3.Tables (i:Int)).bind fun e1=>
    (wn e1 e).bind fun r11=>
    some (!r11))else some false).bind fun t2=>
    if t2 then
    (some false)
    else
    ((ga l b r3 r4 r5 tl) (i+1))

def qL(l:cC)(b:dg):Option Bool:=
  (xg).bind fun r=>
  if(!r)then
  (some false)
  else
  ((s8 b).bind fun r1=>
  (if(!r1)then((zf l b).bind fun r2=>
  some r2)else some true).bind fun t=>
  if t then
  (some true)
  else
  ((zb b).bind fun r3=>
  (mn l r3).bind fun r4=>
  (qA l r3).bind fun r5=>
  ga l b r3 r4 r5 b.Tables 0))


end Go.Proofs.YtpgjgkdpeagjbaaGreatDoor

