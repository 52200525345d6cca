/- di of this claim: F. -/
import Derived.Test.YtmogpgcfognefaaGreatDoorNdD
import Derived.Test.YtmogpgcfognefaaGreatDoorNdV4
import Derived.Lib.MapU
set_option linter.all false
namespace Go.Proofs.YtmogpgcfognefaaGreatDoor
open Go

def f6(f:(Int→Option Bool)):List Int→Nat→Option Int
 |[],i=>
  some (-1:Int)
 |e::tl,i=>
  (f e).bind fun r=>
  if r then
  (some (i:Int))
  else
  ((f6 f tl) (i+1))

def mh(s:(List Int))(f:(Int→Option Bool)):Option Int:=
 f6 f s 0

def ef(s:(List Int))(f:(Int→Option Bool)):Option Bool:=
 (mh s f).bind fun r=>
 some (decide ((0:Int)≤r))

def o0(k:Int):Option Bool:=
 some ((decide (k<(1:Int)))||(decide ((3:Int)<k)))

def jO(l:aq):Option (Bool×aq):=
 (ef ((({l with result:=l.n.Kinds}:aq).n).Kinds) o0).bind fun r=>
 some ((((((!r)&&(decide ((0:Int)≤((({l with result:=l.n.Kinds}:aq).n).Table))))&&(decide (((({l with result:=l.n.Kinds}:aq).n).Table)<(4:Int))))&&(decide ((0:Int)<(((({l with result:=l.n.Kinds}:aq).n).Kinds).length:Int))))&&(decide ((((({l with result:=l.n.Kinds}:aq).n).Kinds).length:Int)≤(4:Int)))),({l with result:=l.n.Kinds}:aq))

def nX(k:Int):Option Bool:=
 some ((decide (k<(0:Int)))||(decide ((4:Int)<k)))

def jg(l:aq):Option (Bool×aq):=
 (ef ((({l with result:=l.n.Kinds}:aq).n).Kinds) nX).bind fun r=>
 some ((((((!r)&&(decide ((0:Int)≤((({l with result:=l.n.Kinds}:aq).n).Table))))&&(decide (((({l with result:=l.n.Kinds}:aq).n).Table)<(30:Int))))&&(decide ((0:Int)<(((({l with result:=l.n.Kinds}:aq).n).Kinds).length:Int))))&&(decide ((((({l with result:=l.n.Kinds}:aq).n).Kinds).length:Int)≤(16:Int)))),({l with result:=l.n.Kinds}:aq))

def m4(s:List Int):Option (List Int):=
 some s

def m5(n:Int):Option (List Int):=
  if(decide ((0:Int)<(IntKind.i64.wrap (n-(IntKind.i64.wrap ((0:Int)-(0:Int)))))))then
  ((XJ (IntKind.i64.wrap (n-(IntKind.i64.wrap ((0:Int)-(0:Int)))))).bind fun _=>
  (Cn (IntKind.i64.wrap (n-(IntKind.i64.wrap ((0:Int)-(0:Int))))) (0:Int)).bind fun mk=>
  (dw mk 0 (0:Int)).bind fun y=>
  m4 y)
  else
  (m4 ([]:List Int))

def mv(n:Int):Option (List Int):=
 if(decide (n<(0:Int)))then
 (none)
 else
 (m5 n)

def jA:List (List Int)→(List Int)→Option (List Int)
 |[],newslice=>
  some newslice
 |e1::tl1,newslice=>
  (ko newslice e1).bind fun newslice1=>
  (jA tl1) newslice1

def jB(slices:(List (List Int))):List (List Int)→Int→Option (List Int)
 |[],size=>
  (mv size).bind fun r=>
  jA slices r
 |e::tl,size=>
  if(decide ((IntKind.i64.wrap (size+(e.length:Int)))<(0:Int)))then
  (none)
  else
  ((jB slices tl) (IntKind.i64.wrap (size+(e.length:Int))))

def jo(slices:(List (List Int))):Option (List Int):=
 jB slices slices (0:Int)

def rj(tag:Int):Option Int:=
  if((tag==(1:Int))||(tag==(2:Int)))then
  (some (0:Int))
  else
  (if((decide ((4:Int)≤tag))&&(decide (tag≤(7:Int))))then
  (some (1:Int))
  else
  (if((decide ((12:Int)≤tag))&&(decide (tag≤(23:Int))))then
  (some (2:Int))
  else
  (some (-1:Int))))

def kY(v1:dQ):Option dQ:=
 some v1

def qh(v2:dQ):Option dQ:=
 kY (dQ.mk (0:Int) v2.N v2.U v2.S)

def qg(v:dQ):Option dQ:=
 qh (dQ.mk v.Kind (0:Int) v.U v.S)

def qf(v3:dQ):Option dQ:=
 kY v3

def wt(v:dQ):Option dQ:=
  if(v.Kind==(1:Int))then
  (if((v.N !=(0:Int))&&(v.N !=(1:Int)))then
  (kY v)
  else
  (qg v))
  else
  (if(v.Kind==(2:Int))then
  (qg v)
  else
  (if(v.Kind==(0:Int))then
  (qh v)
  else
  (if(v.Kind==(3:Int))then
  (if(decide ((v.S.length:Int)≤(40:Int)))then
  (qf (dQ.mk (0:Int) v.N v.U ([])))
  else
  (qf v))
  else
  (if(v.Kind==(4:Int))then
  (kY (dQ.mk (0:Int) (0:Int) (0:Int) v.S))
  else
  (kY v)))))

def tM(v:dQ):Option Int:=
 (wt v).bind fun r=>
 if(!decide (r=(⟨(0:Int),(0:Int),(0:Int),[]⟩:dQ)))then
 (some (120:Int))
 else
 (some (0:Int))

def tL(v:dQ):Option Bool:=
 (tM v).bind fun r=>
 some ((r==(0:Int))&&(v.Kind !=(4:Int)))

def uj(n:bD):Option Bool:=
  if(n.Tag==(1:Int))then
  ((tL n.Value).bind fun r=>
  some (r&&(n.Col==(0:Int))))
  else
  (if(n.Tag==(2:Int))then
  (some (((decide (n.Value=(⟨(0:Int),(0:Int),(0:Int),[]⟩:dQ)))&&(decide ((0:Int)≤n.Col)))&&(decide (n.Col<(16:Int)))))
  else
  (some ((decide (n.Value=(⟨(0:Int),(0:Int),(0:Int),[]⟩:dQ)))&&(n.Col==(0:Int)))))

def mQ(nx:Nat→(List Int)→(List Int)→Option ((List Int)×Bool))(i:Nat)(e1:bD)(all:List Int)(open1:List Int)(r:Int):List Int→Nat→Int→(List Int)→Option ((List Int)×Bool)
  |[],i1,first,at1=>
    if(!decide (at1=([e1.L,e1.R])))then
    (some ([],false))
    else
    ((ko all ([first])).bind fun all1=>
    (dw open1 0 (IntKind.i64.wrap ((open1.length:Int)-r))).bind fun y1=>
    (ko y1 ([(i:Int)])).bind fun open2=>
    nx (i+1) all1 open2)
  |e2::tl1,i1,first,at1=>
    (dC all e2).bind fun e3=>
    (dC at1 (i1:Int)).bind fun e4=>
    (some (at1.set (i1:Int).toNat e2)).bind fun ar=>
    (mQ nx i e1 all open1 r tl1) (i1+1) (min first e3) ar

def lA:List bD→Nat→(List Int)→(List Int)→Option ((List Int)×Bool)
  |[],i,all,open1=>
    some (all,(((open1.length:Int)==(1:Int))&&(decide ((all.length:Int)≤(1000:Int)))))
  |e1::tl,i,all,open1=>
    (rj e1.Tag).bind fun r=>
    (if(!((decide (r<(0:Int)))||(decide ((open1.length:Int)<r))))then((uj e1).bind fun r1=>
    some (!r1))else some true).bind fun t=>
    if t then
    (some ([],false))
    else
    ((dw open1 (IntKind.i64.wrap ((open1.length:Int)-r)) (open1.length:Int)).bind fun y=>
    mQ (lA tl) i e1 all open1 r y 0 (i:Int) ([(-1:Int),(-1:Int)]))

def ui(e:bp):Option ((List Int)×Bool):=
 lA e.Nodes 0 ([]:List Int) ([]:List Int)

def pL(e:bp):Option Int:=
 (ui e).bind fun r=>
 if(!r.2)then
 (some (200:Int))
 else
 (some (0:Int))

def eN(i:Nat)(y:List Int):Nat→Nat→(List Int)→Int→Option (List Int)
  |0,i1,s1,k=>
    (dw s1 k (s1.length:Int)).bind fun y1=>
    (some (s1.take k.toNat++List.replicate y1.length (0:Int))).bind fun cl=>
    (dw cl 0 k).bind fun y2=>
    some y2
  |k2+1,i1,s1,k=>
    (Ep s1 (i:Int) y.length (i1:Int)).bind fun e3=>
    (Ep s1 (i:Int) y.length (IntKind.i64.wrap ((i1:Int)-(1:Int)))).bind fun e4=>
    if(e3 !=e4)then
    ((Ep s1 (i:Int) y.length (i1:Int)).bind fun e5=>
    (dC s1 k).bind fun e6=>
    (some (s1.set k.toNat e5)).bind fun st=>
    (eN i y k2) (i1+1) st (IntKind.i64.wrap (k+(1:Int))))
    else
    ((eN i y k2) (i1+1) s1 k)

def fz(s:(List Int)):List Int→Nat→Option (List Int)
  |[],i=>
    some s
  |e::tl,i=>
    (dC s (IntKind.i64.wrap ((i:Int)-(1:Int)))).bind fun e1=>
    if(e==e1)then
    ((dw s (i:Int) (s.length:Int)).bind fun y=>
    eN i y (y.length-1) 1 s (i:Int))
    else
    ((fz s tl) (i+1))

def kF(s:(List Int)):Option (List Int):=
 if(decide ((s.length:Int)<(2:Int)))then
 (some s)
 else
 (fz s (s.drop (1)) 1)

def nk:List bD→(List Int)→Option (List Int)
  |[],out=>
    (Ct out).bind fun Vp=>
    (kF Vp).bind fun r1=>
    some r1
  |e1::tl,out=>
    if(e1.Tag==(2:Int))then
    ((ko out ([e1.Col])).bind fun out1=>
    (nk tl) out1)
    else
    ((nk tl) out)

def u5(e:bp):Option (List Int):=
 (pL e).bind fun r=>
 if(r !=(0:Int))then
 (some ([]:List Int))
 else
 (nk e.Nodes ([]:List Int))

def dA(s:(List Int)):Option (List Int):=
 (ko ([]:List Int) s).bind fun x=>
 some x

def py(stack:(List Int))(k:Int):Option ((List Int)×(List Int)):=
 (dw stack (IntKind.i64.wrap ((stack.length:Int)-k)) (stack.length:Int)).bind fun y=>
 (dA y).bind fun r=>
 (dw stack 0 (IntKind.i64.wrap ((stack.length:Int)-k))).bind fun y1=>
 some (r,y1)

def mP(bad:Int)(stack:List Int):Option (Int×Int):=
  if(bad !=(0:Int))then
  (some ((0:Int),bad))
  else
  ((dC stack (0:Int)).bind fun e1=>
  some (e1,(0:Int)))

def ip(do1:(bD→(List Int)→Option (Int×Int))):List bD→Int→(List Int)→Option (Int×Int)
  |[],bad1,stack1=>
    mP bad1 stack1
  |e2::tl,bad1,stack1=>
    (rj e2.Tag).bind fun r=>
    (py stack1 r).bind fun r1=>
    (do1 e2 r1.1).bind fun r2=>
    if(r2.2 !=(0:Int))then
    (mP r2.2 r1.2)
    else
    ((ko r1.2 ([r2.1])).bind fun l2=>
    (ip do1 tl) bad1 l2)

def pp(e:bp)(do1:(bD→(List Int)→Option (Int×Int))):Option (Int×Int):=
 ip do1 e.Nodes (0:Int) ([]:List Int)

def sk(tag:Int):Option Bool:=
 some ((tag==(4:Int))||((decide ((12:Int)≤tag))&&(decide (tag≤(15:Int)))))

def mR(kinds:(List Int))(n:bD):List Int→Int→Option (Int×Int)
  |[],own=>
    if(n.Tag==(1:Int))then
    (some (n.Value.Kind,(0:Int)))
    else
    (if(n.Tag==(2:Int))then
    ((dC kinds n.Col).bind fun e1=>
    some (e1,(0:Int)))
    else
    ((sk n.Tag).bind fun r=>
    if r then
    (if((own==(-1:Int))||((own !=(0:Int))&&(own !=(2:Int))))then
    (some ((0:Int),(201:Int)))
    else
    (some ((2:Int),(0:Int))))
    else
    (if(((n.Tag==(5:Int))||(n.Tag==(22:Int)))||(n.Tag==(23:Int)))then
    (if((own==(-1:Int))||((own !=(0:Int))&&(own !=(1:Int))))then
    (some ((0:Int),(201:Int)))
    else
    (some ((1:Int),(0:Int))))
    else
    (if((own==(-1:Int))||((own !=(0:Int))&&(own !=own)))then
    (some ((0:Int),(201:Int)))
    else
    (some ((1:Int),(0:Int)))))))
  |e::tl,own=>
    if((e==(0:Int))||(e==own))then
    ((mR kinds n tl) own)
    else
    (if(own==(0:Int))then
    ((mR kinds n tl) e)
    else
    ((mR kinds n tl) (-1:Int)))

def jW(kinds:(List Int))(n:bD)(l:(List Int)):Option (Int×Int):=
 mR kinds n l (0:Int)

def nj(e:bp)(kinds:(List Int)):List Int→Option (Int×Int)
 |[]=>
  (pp e (jW kinds)).bind fun r2=>
  some (r2.1,r2.2)
 |e2::tl1=>
  if(decide ((kinds.length:Int)≤e2))then
  (some ((0:Int),(2:Int)))
  else
  ((nj e kinds tl1))

def qI(e:bp)(kinds:(List Int)):List Int→Option (Int×Int)
 |[]=>
  (u5 e).bind fun r1=>
  nj e kinds r1
 |e1::tl=>
  if((decide (e1<(0:Int)))||(decide ((3:Int)<e1)))then
  (some ((0:Int),(2:Int)))
  else
  ((qI e kinds tl))

def nL(e:bp)(kinds:(List Int)):Option (Int×Int):=
 (pL e).bind fun r=>
 if(r !=(0:Int))then
 (some ((0:Int),r))
 else
 (qI e kinds kinds)

def lq(e:bp)(kinds:(List Int)):Option Bool:=
 (nL e kinds).bind fun r=>
 some ((r.2==(0:Int))&&((r.1==(0:Int))||(r.1==(1:Int))))

def jP(l:aq):Option (Bool×aq):=
 (jo ([l.a_,l.b])).bind fun r=>
 (lq ((({l with result:=r}:aq).n).Cond) (({l with result:=r}:aq).result)).bind fun r1=>
 some (r1,({l with result:=r}:aq))

def im(l:aq):Option (Bool×aq):=
 (lq ((({l with result:=l.a_}:aq).n).Cond) (({l with result:=l.a_}:aq).a_)).bind fun r=>
 some (r,({l with result:=l.a_}:aq))

def eZ(nx1:Bool→aq→Option (Bool×aq))(ob1:aq)(ok1:Bool)(k:Int):Option (Bool×aq):=
 (ko ob1.result ([k])).bind fun l7=>
 nx1 ok1 ({ob1 with result:=l7}:aq)

def ig(nx1:Bool→aq→Option (Bool×aq))(e1:gm)(ok:Bool)(ob1:aq)(r:Int×Int)(x:Bool):Option (Bool×aq):=
 if x then
 (eZ nx1 ob1 (((ok&&(r.2==(0:Int)))&&(decide ((1:Int)<e1.Tag)))&&(decide (e1.Tag≤(5:Int)))) r.1)
 else
 (eZ nx1 ob1 (((ok&&(r.2==(0:Int)))&&(decide ((1:Int)<e1.Tag)))&&(decide (e1.Tag≤(5:Int)))) (2:Int))

def cP:List gm→Bool→aq→Option (Bool×aq)
  |[],ok,ob1=>
    some (ok,ob1)
  |e1::tl1,ok,ob1=>
    if(e1.Tag==(1:Int))then
    (eZ (cP tl1) ob1 (ok&&((e1.Arg.Nodes.length:Int)==(0:Int))) (2:Int))
    else
    ((nL e1.Arg ob1.a_).bind fun r=>
    if(e1.Tag==(3:Int))then
    (eZ (cP tl1) ob1 ((((ok&&(r.2==(0:Int)))&&(decide ((1:Int)<e1.Tag)))&&(decide (e1.Tag≤(5:Int))))&&((r.1==(2:Int))||(r.1==(0:Int)))) (2:Int))
    else
    (if(e1.Tag==(4:Int))then
    (ig (cP tl1) e1 ok ob1 r (e1.Tag==(4:Int)))
    else
    (ig (cP tl1) e1 ok ob1 r (e1.Tag==(5:Int)))))

def eY(l:aq):List Int→aq→Option (Bool×aq)
  |[],ob=>
    cP l.n.Aggs (((decide ((l.n.Keys.length:Int)≤(3:Int)))&&(decide ((l.n.Aggs.length:Int)≤(12:Int))))&&(decide ((0:Int)<(IntKind.i64.wrap ((l.n.Keys.length:Int)+(l.n.Aggs.length:Int)))))) ob
  |e::tl,ob=>
    if((decide (e<(0:Int)))||(decide ((ob.a_.length:Int)≤e)))then
    (some (false,ob))
    else
    ((dC ob.a_ e).bind fun e2=>
    (ko ob.result ([e2])).bind fun l9=>
    (eY l tl) ({ob with result:=l9}:aq))

def ff(l:aq):Option (Bool×aq):=
 eY l l.n.Keys ({l with result:=([]:List Int)}:aq)

def fy:List gm→Nat→aq→Option (Bool×aq)
  |[],i1,ob=>
    some (true,ob)
  |e::tl,i1,ob=>
    if(e.Tag==(3:Int))then
    ((dC ob.result (IntKind.i64.wrap ((ob.n.Keys.length:Int)+(i1:Int)))).bind fun e1=>
    (some (ob.result.set (IntKind.i64.wrap ((ob.n.Keys.length:Int)+(i1:Int))).toNat (4:Int))).bind fun st=>
    (fy tl) (i1+1) ({ob with result:=st}:aq))
    else
    ((fy tl) (i1+1) ob)

def gT(l:aq):Option (Bool×aq):=
 (ff l).bind fun r=>
 if(!r.1)then
 (some (false,r.2))
 else
 (fy r.2.n.Aggs 0 r.2)

def lu(nx1:Nat→Bool→aq→Option (Bool×aq))(i1:Nat)(e2:gm)(ok1:Bool)(ob:aq)(e3:Int)(x1:Bool):Option (Bool×aq):=
 if x1 then
 (nx1 (i1+1) ((ok1&&((e2.Arg.Nodes.length:Int)==(0:Int)))&&(e3 !=(4:Int))) ob)
 else
 (nx1 (i1+1) false ob)

def ii(l:aq)(nx1:Nat→Bool→aq→Option (Bool×aq))(i1:Nat)(e2:gm)(ok1:Bool)(ob:aq)(e3:Int)(x:Bool):Option (Bool×aq):=
  if x then
  (nx1 (i1+1) ((ok1&&((e2.Arg.Nodes.length:Int)==(0:Int)))&&(e3==(2:Int))) ob)
  else
  (if(e2.Tag==(3:Int))then
  ((dC ob.result (IntKind.i64.wrap ((l.n.Keys.length:Int)+(i1:Int)))).bind fun e4=>
  (some (ob.result.set (IntKind.i64.wrap ((l.n.Keys.length:Int)+(i1:Int))).toNat (2:Int))).bind fun st=>
  nx1 (i1+1) ((ok1&&((e2.Arg.Nodes.length:Int)==(0:Int)))&&(e3==(4:Int))) ({ob with result:=st}:aq))
  else
  (if(e2.Tag==(4:Int))then
  (lu nx1 i1 e2 ok1 ob e3 (e2.Tag==(4:Int)))
  else
  (lu nx1 i1 e2 ok1 ob e3 (e2.Tag==(5:Int)))))

def de(l:aq):List gm→Nat→Bool→aq→Option (Bool×aq)
 |[],i1,ok1,ob=>
  some (ok1,ob)
 |e2::tl1,i1,ok1,ob=>
  (dC ob.a_ (IntKind.i64.wrap ((l.n.Keys.length:Int)+(i1:Int)))).bind fun e3=>
  if(e2.Tag==(1:Int))then
  (ii l (de l tl1) i1 e2 ok1 ob e3 (e2.Tag==(1:Int)))
  else
  (ii l (de l tl1) i1 e2 ok1 ob e3 (e2.Tag==(2:Int)))

def gr(l:aq)(r:(List Int)):List Int→Nat→Bool→Option (Bool×aq)
  |[],i,ok=>
    de l l.n.Aggs 0 ok ({l with result:=r}:aq)
  |e1::tl,i,ok=>
    (if(ok&&(e1==(i:Int)))then((dC l.a_ (i:Int)).bind fun e5=>
    some (e5 !=(4:Int)))else some false).bind fun t=>
    (gr l r tl) (i+1) t

def fL(l:aq):Option (Bool×aq):=
  (dC l.nodes l.n.A).bind fun e=>
  if(!((((e.Op==(9:Int))&&(decide ((l.n.Keys.length:Int)≤(3:Int))))&&(decide ((l.n.Aggs.length:Int)≤(12:Int))))&&((IntKind.i64.wrap ((l.n.Keys.length:Int)+(l.n.Aggs.length:Int)))==(l.a_.length:Int))))then
  (some (false,l))
  else
  ((dA l.a_).bind fun r=>
  gr l r l.n.Keys 0 ((((e.Op==(9:Int))&&(decide ((l.n.Keys.length:Int)≤(3:Int))))&&(decide ((l.n.Aggs.length:Int)≤(12:Int))))&&((IntKind.i64.wrap ((l.n.Keys.length:Int)+(l.n.Aggs.length:Int)))==(l.a_.length:Int))))

def gq:List bp→aq→Option (Bool×aq)
  |[],ob=>
    some (decide ((0:Int)<(ob.result.length:Int)),ob)
  |e::tl,ob=>
    (nL e ob.a_).bind fun r=>
    if(r.2 !=(0:Int))then
    (some (false,ob))
    else
    ((ko ob.result ([r.1])).bind fun l4=>
    (gq tl) ({ob with result:=l4}:aq))

def j5(l:aq):Option (Bool×aq):=
 gq l.n.Items ({l with result:=([]:List Int)}:aq)

def lN(l:aq):Option (Bool×aq):=
 some (true,({l with result:=l.a_}:aq))

def fH(nx:Nat→aq→Option (Bool×aq))(i:Nat)(ob:aq)(e1:Int)(k:Int):Option (Bool×aq):=
  if((e1 !=(0:Int))&&(e1 !=k))then
  (some (false,ob))
  else
  ((ko ob.result ([k])).bind fun l4=>
  nx (i+1) ({ob with result:=l4}:aq))

def dN:List Int→Nat→aq→Option (Bool×aq)
 |[],i,ob=>
  some (true,ob)
 |e::tl,i,ob=>
  (dC ob.b (i:Int)).bind fun e1=>
  if(e==(0:Int))then
  (fH (dN tl) i ob e1 e1)
  else
  (fH (dN tl) i ob e1 e)

def jf(l:aq):Option (Bool×aq):=
 if((l.a_.length:Int) !=(l.b.length:Int))then
 (some (false,l))
 else
 (dN l.a_ 0 ({l with result:=([]:List Int)}:aq))

def ej(f:(kW→Option Bool)):List kW→Nat→Option Int
 |[],i=>
  some (-1:Int)
 |e::tl,i=>
  (f e).bind fun r=>
  if r then
  (some (i:Int))
  else
  ((ej f tl) (i+1))

def iC(s:(List kW))(f:(kW→Option Bool)):Option Int:=
 ej f s 0

def fj(s:(List kW))(f:(kW→Option Bool)):Option Bool:=
 (iC s f).bind fun r=>
 some (decide ((0:Int)≤r))

def mI(l:aq)(o:kW):Option Bool:=
 some ((decide (o.Col<(0:Int)))||(decide ((l.a_.length:Int)≤o.Col)))

def jN(l:aq):Option (Bool×aq):=
 (fj ((({l with result:=l.a_}:aq).n).Order) (mI ({l with result:=l.a_}:aq))).bind fun r=>
 some (((((!r)&&(decide ((((({l with result:=l.a_}:aq).n).Order).length:Int)≤(3:Int))))&&(decide ((-1:Int)≤((({l with result:=l.a_}:aq).n).Limit))))&&(decide (((({l with result:=l.a_}:aq).n).Limit)≤(2147483647:Int)))),({l with result:=l.a_}:aq))

def pW:Option (List (Int×(aq→Unit→Option (Bool×aq)))):=
 some (jS (jS (jS (jS (jS (jS (jS (jS (jS (jS (jS ([]:List (Int×(aq→Unit→Option (Bool×aq)))) (1:Int) (fun(mc:aq) (mx:Unit)=>jO mc)) (9:Int) (fun(mc:aq) (mx:Unit)=>jg mc)) (2:Int) (fun(mc:aq) (mx:Unit)=>jP mc)) (3:Int) (fun(mc:aq) (mx:Unit)=>im mc)) (4:Int) (fun(mc:aq) (mx:Unit)=>ff mc)) (10:Int) (fun(mc:aq) (mx:Unit)=>gT mc)) (11:Int) (fun(mc:aq) (mx:Unit)=>fL mc)) (5:Int) (fun(mc:aq) (mx:Unit)=>j5 mc)) (6:Int) (fun(mc:aq) (mx:Unit)=>lN mc)) (7:Int) (fun(mc:aq) (mx:Unit)=>jf mc)) (8:Int) (fun(mc:aq) (mx:Unit)=>jN mc))

def jD(x2:Bool):Option Int:=
 if x2 then
 (some (1:Int))
 else
 (some (-1:Int))

def rr(op:Int)(x1:Bool):Option Int:=
  if x1 then
  (some (2:Int))
  else
  (if(op==(3:Int))then
  (jD (op==(3:Int)))
  else
  (if(op==(4:Int))then
  (jD (op==(4:Int)))
  else
  (if(op==(5:Int))then
  (jD (op==(5:Int)))
  else
  (if(op==(6:Int))then
  (jD (op==(6:Int)))
  else
  (if(op==(8:Int))then
  (jD (op==(8:Int)))
  else
  (if(op==(10:Int))then
  (jD (op==(10:Int)))
  else
  (jD (op==(11:Int)))))))))

def rs(op:Int)(x:Bool):Option Int:=
  if x then
  (some (0:Int))
  else
  (if(op==(2:Int))then
  (rr op (op==(2:Int)))
  else
  (rr op (op==(7:Int))))

def vz(op:Int):Option Int:=
 if(op==(1:Int))then
 (rs op (op==(1:Int)))
 else
 (rs op (op==(9:Int)))

def q8(n:aw):Option Bool:=
 some ((((((((n.Op==(1:Int))||(n.Op==(9:Int)))||((n.Table==(0:Int))&&((n.Kinds.length:Int)==(0:Int))))&&((n.Op==(2:Int))||(!n.Left)))&&(((n.Op==(2:Int))||(n.Op==(3:Int)))||((n.Cond.Nodes.length:Int)==(0:Int))))&&((((n.Op==(4:Int))||(n.Op==(10:Int)))||(n.Op==(11:Int)))||((IntKind.i64.wrap ((n.Keys.length:Int)+(n.Aggs.length:Int)))==(0:Int))))&&((n.Op==(5:Int))||((n.Items.length:Int)==(0:Int))))&&((n.Op==(8:Int))||(((n.Order.length:Int)==(0:Int))&&(n.Limit==(0:Int)))))

def eH(v:Int):List Int→Nat→Option Int
 |[],i=>
  some (-1:Int)
 |e::tl,i=>
  if(v==e)then
  (some (i:Int))
  else
  ((eH v tl) (i+1))

def gn(s:(List Int))(v:Int):Option Int:=
 eH v s 0

def d5(s:(List Int))(v:Int):Option Bool:=
 (gn s v).bind fun r=>
 some (decide ((0:Int)≤r))

def bH(l:aq)(i:Int)(ask:(aq→Unit→Option (Bool×aq)))(e:aw)(r:Int):List Int→Nat→(List Int)→(List Int)→Option (Bool×aq)
  |[],i5,a_,b3=>
    if(((e.Op==(8:Int))||(e.Op==(10:Int)))&&(i !=(IntKind.i64.wrap (((({({({({({l with n:=e}:aq)with a_:=[]}:aq)with b:=[]}:aq)with a_:=a_}:aq)with b:=b3}:aq).nodes).length:Int)-(1:Int)))))then
    (some (false,({({({({({l with n:=e}:aq)with a_:=[]}:aq)with b:=[]}:aq)with a_:=a_}:aq)with b:=b3}:aq)))
    else
    ((ask ({({({({({l with n:=e}:aq)with a_:=[]}:aq)with b:=[]}:aq)with a_:=a_}:aq)with b:=b3}:aq) ()).bind fun r2=>
    if((!r2.1)||(decide ((16:Int)<(r2.2.result.length:Int))))then
    (some (false,r2.2))
    else
    ((ko r2.2.kinds ([r2.2.result])).bind fun l1=>
    (dw r2.2.open_ 0 (IntKind.i64.wrap ((r2.2.open_.length:Int)-r))).bind fun y2=>
    (ko y2 ([i])).bind fun l2=>
    some (true,({({r2.2 with kinds:=l1}:aq)with open_:=l2}:aq))))
  |e1::tl,i5,a_,b3=>
    (dC l.kinds e1).bind fun e2=>
    (if(e.Op !=(11:Int))then((d5 e2 (4:Int)).bind fun r3=>
    some r3)else some false).bind fun t1=>
    if t1 then
    (some (false,({({({({({l with n:=e}:aq)with a_:=[]}:aq)with b:=[]}:aq)with a_:=a_}:aq)with b:=b3}:aq)))
    else
    (if((i5:Int)==(0:Int))then
    ((bH l i ask e r tl) (i5+1) (({({({({({({l with n:=e}:aq)with a_:=[]}:aq)with b:=[]}:aq)with a_:=a_}:aq)with b:=b3}:aq)with a_:=e2}:aq).a_) (({({({({({({l with n:=e}:aq)with a_:=[]}:aq)with b:=[]}:aq)with a_:=a_}:aq)with b:=b3}:aq)with a_:=e2}:aq).b))
    else
    ((bH l i ask e r tl) (i5+1) (({({({({({({l with n:=e}:aq)with a_:=[]}:aq)with b:=[]}:aq)with a_:=a_}:aq)with b:=b3}:aq)with b:=e2}:aq).a_) (({({({({({({l with n:=e}:aq)with a_:=[]}:aq)with b:=[]}:aq)with a_:=a_}:aq)with b:=b3}:aq)with b:=e2}:aq).b)))

def fe(l:aq)(i:Int)(ask:(aq→Unit→Option (Bool×aq))):Option (Bool×aq):=
  (dC l.nodes i).bind fun e=>
  (vz e.Op).bind fun r=>
  (if(!((decide (r<(0:Int)))||(decide ((l.open_.length:Int)<r))))then((q8 e).bind fun r1=>
  some (!r1))else some true).bind fun t=>
  if t then
  (some (false,l))
  else
  ((dw l.open_ (IntKind.i64.wrap ((l.open_.length:Int)-r)) (l.open_.length:Int)).bind fun y=>
  if(!decide ((tu ([(-1:Int),(-1:Int)]) y)=([e.A,e.B])))then
  (some (false,l))
  else
  ((dw l.open_ (IntKind.i64.wrap ((l.open_.length:Int)-r)) (l.open_.length:Int)).bind fun y1=>
  bH l i ask e r y1 0 (({({({l with n:=e}:aq)with a_:=[]}:aq)with b:=[]}:aq).a_) (({({({l with n:=e}:aq)with a_:=[]}:aq)with b:=[]}:aq).b)))

def nH:List (List Int)→(List (List Int))→Option ((List (List Int))×Int×Int)
 |[],out=>
  some (out,(0:Int),(0:Int))
 |e::tl,out=>
  (dA e).bind fun r1=>
  (ko out ([r1])).bind fun out1=>
  (nH tl) out1

def mn(ob:aq)(wrong1:Int):Option ((List (List Int))×Int×Int):=
 if(decide ((0:Int)≤wrong1))then
 (some ([],wrong1,(291:Int)))
 else
 (nH ob.kinds ([]:List (List Int)))

def mo(nodes:(List aw))(wrong:Int)(ob:aq):Option ((List (List Int))×Int×Int):=
 if((decide (wrong<(0:Int)))&&((ob.open_.length:Int) !=(1:Int)))then
 (mn ob (IntKind.i64.wrap ((nodes.length:Int)-(1:Int))))
 else
 (mn ob wrong)

def iy(nodes:(List aw))(r:(List (Int×(aq→Unit→Option (Bool×aq))))):List aw→Nat→Int→aq→Option ((List (List Int))×Int×Int)
 |[],i1,wrong2,ob1=>
  mo nodes wrong2 ob1
 |e1::tl1,i1,wrong2,ob1=>
  (fe ob1 (i1:Int) ((rW r e1.Op).getD (fun _ _=>none))).bind fun r2=>
  if(!r2.1)then
  (mo nodes (i1:Int) r2.2)
  else
  ((iy nodes r tl1) (i1+1) wrong2 r2.2)

def oC(nodes:(List aw)):Option ((List (List Int))×Int×Int):=
  if((decide ((nodes.length:Int)<(1:Int)))||(decide ((60:Int)<(nodes.length:Int))))then
  (some ([],(0:Int),(291:Int)))
  else
  ((pW).bind fun r=>
  iy nodes r nodes 0 (-1:Int) (⟨nodes,[],[],(⟨(0:Int),(0:Int),(0:Int),(0:Int),[],false,(⟨[]⟩:bp),[],[],[],[],(0:Int)⟩:aw),[],[],[]⟩:aq))

def u3(c:Int):Option Bool:=
 some ((decide ((97:Int)≤c))&&(decide (c≤(122:Int))))

def ft(v:iZ):List iZ→Nat→Option Int
 |[],i=>
  some (-1:Int)
 |e::tl,i=>
  if(v==e)then
  (some (i:Int))
  else
  ((ft v tl) (i+1))

def k5(s:(List iZ))(v:iZ):Option Int:=
 ft v s 0

def jJ(s:(List iZ))(v:iZ):Option Bool:=
 (k5 s v).bind fun r=>
 some (decide ((0:Int)≤r))

def vC(s:iZ):Option Bool:=
 (jJ VF s).bind fun r=>
 some r

def kc(s:iZ):Option iZ:=if s.length<35184372088832 then some (Lib.toUpperD s)else none

def xj(c:Int):Option Bool:=
 some ((decide ((48:Int)≤c))&&(decide (c≤(57:Int))))

def po:List (Int×Int)→Option Bool
  |[]=>
    some true
  |e::tl=>
    (xj e.2).bind fun r3=>
    (if(!r3)then((u3 e.2).bind fun r4=>
    some (!r4))else some false).bind fun t2=>
    if(t2&&(e.2 !=(95:Int)))then
    (some false)
    else
    ((po tl))

def rb(s:iZ):Option Bool:=
  (if(!((s==([]))||(decide ((16:Int)<(s.length:Int)))))then((zt s (0:Int)).bind fun b=>
  (u3 (IntKind.i32.wrap b)).bind fun r=>
  some (!r))else some true).bind fun t=>
  (if(!t)then((kc s).bind fun r1=>
  (vC r1).bind fun r2=>
  some r2)else some true).bind fun t1=>
  if t1 then
  (some false)
  else
  (po (Hy s))

def dd(f:(bL→Option Bool)):List bL→Nat→Option Int
 |[],i=>
  some (-1:Int)
 |e::tl,i=>
  (f e).bind fun r=>
  if r then
  (some (i:Int))
  else
  ((dd f tl) (i+1))

def gp(s:(List bL))(f:(bL→Option Bool)):Option Int:=
 dd f s 0

def fC(of:(bL→Option iZ))(name:iZ)(p:bL):Option Bool:=
 (of p).bind fun r=>
 some (r==name)

def j9(l:(List bL))(of:(bL→Option iZ))(name:iZ):Option (Int×Bool):=
 (gp l (fC of name)).bind fun r=>
 some ((max r (0:Int)),decide ((0:Int)≤r))

def gx(l:(List bL))(of:(bL→Option iZ)):List bL→Nat→Option Bool
  |[],i=>
    some true
  |e::tl,i=>
    (of e).bind fun r=>
    (j9 l of r).bind fun r1=>
    (if(!(r1.1 !=(i:Int)))then((of e).bind fun r2=>
    (rb r2).bind fun r3=>
    some (!r3))else some true).bind fun t=>
    if t then
    (some false)
    else
    ((gx l of tl) (i+1))

def mS(l:(List bL))(of:(bL→Option iZ)):Option Bool:=
 gx l of l 0

def fJ(c:bL):Option iZ:=
 some c.Name

def km(kind:Int):Nat→Nat→Option iZ
 |0,i=>
  some ([])
 |k1+1,i=>
  (dC TU (i:Int)).bind fun e1=>
  if(e1.kind==kind)then
  (some e1.word)
  else
  ((km kind k1) (i+1))

def sI(kind:Int):Option iZ:=
 km kind 3 0

def fZ(t:bU):List Int→Nat→Bool→Option Int
  |[],i1,ok1=>
    if(!ok1)then
    (some (211:Int))
    else
    (some (0:Int))
  |e1::tl1,i1,ok1=>
    (if((ok1&&(decide ((0:Int)≤e1)))&&(decide (e1<(t.Columns.length:Int))))then((if(!((i1:Int)==(0:Int)))then((dC t.Keys (IntKind.i64.wrap ((i1:Int)-(1:Int)))).bind fun e2=>
    some (decide (e2<e1)))else some true).bind fun t3=>
    some t3)else some false).bind fun t2=>
    (fZ t tl1) (i1+1) t2

def gY(t:bU):List bL→Bool→Option Int
  |[],ok=>
    fZ t t.Keys 0 ok
  |e::tl,ok=>
    (if ok then((sI e.Kind).bind fun r2=>
    some (!(r2==([]))))else some false).bind fun t4=>
    (gY t tl) t4

def np(t:bU):Option Int:=
  (rb t.Name).bind fun r=>
  (if((r&&(decide ((1:Int)≤(t.Columns.length:Int))))&&(decide ((t.Columns.length:Int)≤(4:Int))))then((mS t.Columns fJ).bind fun r1=>
  some r1)else some false).bind fun t1=>
  gY t t.Columns t1

def lO(t:bU):Option Bool:=
 (np t).bind fun r=>
 some (r !=(0:Int))

def cE(f:(bU→Option Bool)):List bU→Nat→Option Int
 |[],i=>
  some (-1:Int)
 |e::tl,i=>
  (f e).bind fun r=>
  if r then
  (some (i:Int))
  else
  ((cE f tl) (i+1))

def eb(s:(List bU))(f:(bU→Option Bool)):Option Int:=
 cE f s 0

def ge(s:(List bU))(f:(bU→Option Bool)):Option Bool:=
 (eb s f).bind fun r=>
 some (decide ((0:Int)≤r))

def fR(of:(bU→Option iZ))(name:iZ)(p:bU):Option Bool:=
 (of p).bind fun r=>
 some (r==name)

def kK(l:(List bU))(of:(bU→Option iZ))(name:iZ):Option (Int×Bool):=
 (eb l (fR of name)).bind fun r=>
 some ((max r (0:Int)),decide ((0:Int)≤r))

def gO(l:(List bU))(of:(bU→Option iZ)):List bU→Nat→Option Bool
  |[],i=>
    some true
  |e::tl,i=>
    (of e).bind fun r=>
    (kK l of r).bind fun r1=>
    (if(!(r1.1 !=(i:Int)))then((of e).bind fun r2=>
    (rb r2).bind fun r3=>
    some (!r3))else some true).bind fun t=>
    if t then
    (some false)
    else
    ((gO l of tl) (i+1))

def nm(l:(List bU))(of:(bU→Option iZ)):Option Bool:=
 gO l of l 0

def gb(t:bU):Option iZ:=
 some t.Name

def rz(c:bG):Option Int:=
  (if(!(decide ((4:Int)<(c.Tables.length:Int))))then((ge c.Tables lO).bind fun r=>
  some r)else some true).bind fun t=>
  (if(!t)then((nm c.Tables gb).bind fun r1=>
  some (!r1))else some true).bind fun t1=>
  if t1 then
  (some (210:Int))
  else
  (some (0:Int))

def df(root:(List Int))(c:Int):Option Bool:=
  (if(!((decide (c<(0:Int)))||(decide ((root.length:Int)≤c))))then((dC root c).bind fun e=>
  some (e==(4:Int)))else some true).bind fun t=>
  some t

def dS(f:(aw→Option Bool)):List aw→Nat→Option Int
 |[],i=>
  some (-1:Int)
 |e::tl,i=>
  (f e).bind fun r=>
  if r then
  (some (i:Int))
  else
  ((dS f tl) (i+1))

def fb(s:(List aw))(f:(aw→Option Bool)):Option Int:=
 dS f s 0

def eM(s:(List aw))(f:(aw→Option Bool)):Option Bool:=
 (fb s f).bind fun r=>
 some (decide ((0:Int)≤r))

def bZ(s2:(List bL))(eq:(Int→bL→Option Bool)):List Int→Nat→Option Bool
 |[],i=>
  some true
 |e::tl,i=>
  (dC s2 (i:Int)).bind fun e1=>
  (eq e e1).bind fun r=>
  if(!r)then
  (some false)
  else
  ((bZ s2 eq tl) (i+1))

def cM(s1:(List Int))(s2:(List bL))(eq:(Int→bL→Option Bool)):Option Bool:=
 if((s1.length:Int) !=(s2.length:Int))then
 (some false)
 else
 (bZ s2 eq s1 0)

def gX(k:Int)(c:bL):Option Bool:=
 some (k==c.Kind)

def ed(f:cL)(p:(Option ci))(n:aw):Option Bool:=
  if(n.Op !=(1:Int))then
  (some false)
  else
  ((if(!(f.At !=(1:Int)))then((p).bind fun p1=>
  some (decide ((p1.c.Tables.length:Int)≤n.Table)))else some true).bind fun t=>
  if t then
  (some true)
  else
  ((p).bind fun p2=>
  (dC p2.c.Tables n.Table).bind fun e=>
  (cM n.Kinds e.Columns gX).bind fun r=>
  some (!r)))

def iO(p:(Option ci))(f:cL)(root:(List Int)):Option Bool:=
  if((((((f.At !=(1:Int))&&(f.At !=(2:Int)))||(decide (f.Way<(1:Int))))||(decide ((4:Int)<f.Way)))||((f.Way==(1:Int)) !=(decide ((0:Int)<(f.Cols.length:Int)))))||(decide ((16:Int)<(f.Cols.length:Int))))then
  (some false)
  else
  ((ef f.Cols (df root)).bind fun r=>
  if r then
  (some false)
  else
  ((eM f.Nodes (ed f p)).bind fun r1=>
  some (!r1)))

def kT{Sg:Type}(from1:Int)(yld:(Int×Int)→Sg→Option (Bool×Sg))(nx:Nat→Sg→Option Sg)(i:Nat):List aw→Nat→Sg→Option Sg
  |[],i1,s2=>
    nx (i+1) s2
  |e4::tl1,i1,s2=>
    if((e4.Op==(9:Int))&&(e4.Table==from1))then
    ((yld ((i:Int),(i1:Int)) s2).bind fun r=>
    if(!r.1)then
    (some r.2)
    else
    ((kT from1 yld nx i tl1) (i1+1) r.2))
    else
    ((kT from1 yld nx i tl1) (i1+1) s2)

def kU{Sg:Type}(from1:Int)(yld:(Int×Int)→Sg→Option (Bool×Sg)):List cL→Nat→Sg→Option Sg
 |[],i,s1=>
  some s1
 |e2::tl,i,s1=>
  kT from1 yld (kU from1 yld tl) i e2.Nodes 0 s1

def uz{Sg:Type}(p:da)(from1:Int)(yld:(Int×Int)→Sg→Option (Bool×Sg))(s:Sg):Option Sg:=
 kU from1 yld p.Frags 0 s

def rQ(p:da)(from1:Int):Option (It (Int×Int)):=
 some (fun _=>uz p from1)

def gh(s2:(List Int)):List Int→Nat→Option Bool
 |[],i=>
  some true
 |e::tl,i=>
  (dC s2 (i:Int)).bind fun e1=>
  if(e !=e1)then
  (some false)
  else
  ((gh s2 tl) (i+1))

def fv(s1:(List Int))(s2:(List Int)):Option Bool:=
 if((s1.length:Int) !=(s2.length:Int))then
 (some false)
 else
 (gh s2 s1 0)

def dK(p:(Option ci))(frag:Int):Option (List Int):=
 (p).bind fun p1=>
 (dC p1.kinds frag).bind fun e=>
 (dC e (IntKind.i64.wrap ((e.length:Int)-(1:Int)))).bind fun e1=>
 some e1

def dr(p:(Option ci))(x:Int×Int)(one:Bool)(many:Int):Option (Bool×Int):=
 (p).bind fun p3=>
 (dC p3.Plan.Frags x.1).bind fun e2=>
 some ((e2.At==(2:Int)),(IntKind.i64.wrap (many+(1:Int))))

def eE(p:(Option ci))(at1:Int)(e:cL):List aw→Option Bool
  |[]=>
    (p).bind fun p2=>
    (rQ p2.Plan at1).bind fun it=>
    (it (Bool×Int) (tv (fun x s=>dr p x s.1 s.2)) (false,(0:Int))).bind fun(x1,x2)=>
    (p).bind fun p4=>
    if(at1==(IntKind.i64.wrap ((p4.Plan.Frags.length:Int)-(1:Int))))then
    ((if(((e.Way==(4:Int))&&(e.At==(2:Int)))&&(x2==(0:Int)))then((dK p at1).bind fun r=>
    (d5 r (4:Int)).bind fun r1=>
    some (!r1))else some false).bind fun t=>
    some t)
    else
    (some (((e.Way !=(4:Int))&&(x2==(1:Int)))&&((e.Way==(3:Int))==x1)))
  |e1::tl=>
    (if(e1.Op==(9:Int))then((if(!(decide (at1≤e1.Table)))then((dK p e1.Table).bind fun r2=>
    (fv e1.Kinds r2).bind fun r3=>
    some (!r3))else some true).bind fun t2=>
    some t2)else some false).bind fun t1=>
    if t1 then
    (some false)
    else
    ((eE p at1 e tl))

def gu(p:(Option ci))(at1:Int):Option Bool:=
 (p).bind fun p1=>
 (dC p1.Plan.Frags at1).bind fun e=>
 eE p at1 e e.Nodes

def mj(x:ci):List cL→Nat→Option ((Option ci)×Int×Int×Int)
 |[],i1=>
  some ((some x),(0:Int),(0:Int),(0:Int))
 |e1::tl1,i1=>
  (gu (some x) (i1:Int)).bind fun r1=>
  if(!r1)then
  (some ((none:(Option ci)),(i1:Int),(0:Int),(290:Int)))
  else
  ((mj x tl1) (i1+1))

def jE(q:da):List cL→Nat→ci→Option ((Option ci)×Int×Int×Int)
  |[],i,x=>
    mj x q.Frags 0
  |e::tl,i,x=>
    (oC e.Nodes).bind fun r2=>
    if(r2.2.2 !=(0:Int))then
    (some ((none:(Option ci)),(i:Int),r2.2.1,r2.2.2))
    else
    ((dC r2.1 (IntKind.i64.wrap ((r2.1.length:Int)-(1:Int)))).bind fun e2=>
    (iO (some x) e e2).bind fun r3=>
    if(!r3)then
    (some ((none:(Option ci)),(i:Int),(0:Int),(291:Int)))
    else
    ((ko x.kinds ([r2.1])).bind fun l1=>
    (jE q tl) (i+1) ({x with kinds:=l1}:ci)))

def na(q:da)(c:bG):Option ((Option ci)×Int×Int×Int):=
  (rz c).bind fun r=>
  if(r !=(0:Int))then
  (some ((none:(Option ci)),(0:Int),(0:Int),r))
  else
  (if((decide ((q.Frags.length:Int)<(1:Int)))||(decide ((30:Int)<(q.Frags.length:Int))))then
  (some ((none:(Option ci)),(0:Int),(0:Int),(290:Int)))
  else
  (jE q q.Frags 0 ({(⟨q,c,[]⟩:ci)with kinds:=([]:List (List (List Int)))}:ci)))

def yq(p:da)(c:bG):Option (Int×Int×Int):=
 (na p c).bind fun r=>
 some (r.2.1,r.2.2.1,r.2.2.2)

def lr(l:(Option dq)):Option aS:=
  (l).bind fun p=>
  (p.checker).bind fun p1=>
  (l).bind fun p2=>
  (dC p1.c.Tables p2.n.Table).bind fun e=>
  if(decide ((0:Int)<(e.Keys.length:Int)))then
  ((dA e.Keys).bind fun r=>
  some (⟨(2:Int),r⟩:aS))
  else
  (some (⟨(1:Int),[]⟩:aS))

def kh(l:(Option dq)):Option aS:=
  (l).bind fun p=>
  (p.checker).bind fun p1=>
  (l).bind fun p2=>
  (dC p1.Plan.Frags p2.n.Table).bind fun e=>
  if(e.Way==(1:Int))then
  ((dA e.Cols).bind fun r=>
  some (⟨(2:Int),r⟩:aS))
  else
  (some (⟨(3:Int),[]⟩:aS))

def kg(l:(Option dq)):Option aS:=
  (l).bind fun p=>
  (if(p.a_.Kind==(2:Int))then((l).bind fun p1=>
  some (p1.b.Kind==(2:Int)))else some false).bind fun t=>
  (if t then((l).bind fun p2=>
  (l).bind fun p3=>
  (fv p2.a_.Cols p3.b.Cols).bind fun r=>
  some r)else some false).bind fun t1=>
  if t1 then
  ((l).bind fun p4=>
  some p4.a_)
  else
  (some (⟨(1:Int),[]⟩:aS))

def jQ(at1:(Int→Option Int)):List Int→(List Int)→aS→Option aS
  |[],cols,x=>
    some (⟨(2:Int),cols⟩:aS)
  |e::tl,cols,x=>
    (at1 e).bind fun r=>
    if(decide (r<(0:Int)))then
    (some (⟨(1:Int),[]⟩:aS))
    else
    ((ko cols ([r])).bind fun cols1=>
    (jQ at1 tl) cols1 x)

def lX(p:aS)(at1:(Int→Option Int)):Option aS:=
 if(p.Kind !=(2:Int))then
 (some p)
 else
 (jQ at1 p.Cols ([]:List Int) (⟨(0:Int),[]⟩:aS))

def cJ(f:(bp→Option Bool)):List bp→Nat→Option Int
 |[],i=>
  some (-1:Int)
 |e::tl,i=>
  (f e).bind fun r=>
  if r then
  (some (i:Int))
  else
  ((cJ f tl) (i+1))

def dM(s:(List bp))(f:(bp→Option Bool)):Option Int:=
 cJ f s 0

def dI(c:Int)(e:bp):Option Bool:=
  (if((e.Nodes.length:Int)==(1:Int))then((dC e.Nodes (0:Int)).bind fun e1=>
  some (e1.Tag==(2:Int)))else some false).bind fun t=>
  (if t then((dC e.Nodes (0:Int)).bind fun e2=>
  some (e2.Col==c))else some false).bind fun t1=>
  some t1

def gQ(l:(Option dq))(c:Int):Option Int:=
 (l).bind fun p=>
 (dM p.n.Items (dI c)).bind fun r=>
 some r

def iM(l:(Option dq)):Option aS:=
 (l).bind fun p=>
 (lX p.a_ (gQ l)).bind fun r=>
 some r

def iN(l:(Option dq))(c:Int):Option Int:=
 (l).bind fun p=>
 (gn p.n.Keys c).bind fun r=>
 some r

def ep(l:(Option dq)):Option aS:=
 (l).bind fun p=>
 (lX p.a_ (iN l)).bind fun r=>
 some r

def eU(l:(Option dq)):Option aS:=
 (l).bind fun p=>
 some p.a_

def mJ:Option (List (Int×((Option dq)→Option aS))):=
 some (jS (jS (jS (jS (jS (jS (jS (jS (jS (jS (jS ([]:List (Int×((Option dq)→Option aS))) (1:Int) lr) (9:Int) kh) (7:Int) kg) (5:Int) iM) (4:Int) ep) (10:Int) ep) (11:Int) ep) (3:Int) eU) (6:Int) eU) (8:Int) eU) (2:Int) eU)

def fV(nx:(List aS)→Option (List aS))(out:List aS)(x2:aS):Option (List aS):=
 (ko out ([x2])).bind fun out1=>
 nx out1

def fW(e:cL)(r:(List (Int×((Option dq)→Option aS))))(nx:(List aS)→Option (List aS))(e1:aw)(out:List aS)(x1:dq):Option (List aS):=
  if(e.At==(1:Int))then
  ((((rW r e1.Op).getD (fun _=>none)) (some x1)).bind fun r1=>
  fV nx out r1)
  else
  (fV nx out (⟨(4:Int),[]⟩:aS))

def eF(e:cL)(r:(List (Int×((Option dq)→Option aS))))(nx:(List aS)→Option (List aS))(e1:aw)(out:List aS)(x:dq):Option (List aS):=
  if(decide ((0:Int)≤e1.B))then
  ((dC out e1.B).bind fun e2=>
  fW e r nx e1 out (dq.mk x.checker x.n x.a_ e2))
  else
  (fW e r nx e1 out x)

def cQ(p:(Option ci))(e:cL)(r:(List (Int×((Option dq)→Option aS)))):List aw→(List aS)→Option (List aS)
  |[],out=>
    some out
  |e1::tl,out=>
    if(decide ((0:Int)≤e1.A))then
    ((dC out e1.A).bind fun e3=>
    eF e r (cQ p e r tl) e1 out (dq.mk (⟨p,e1,(⟨(0:Int),[]⟩:aS),(⟨(0:Int),[]⟩:aS)⟩:dq).checker (⟨p,e1,(⟨(0:Int),[]⟩:aS),(⟨(0:Int),[]⟩:aS)⟩:dq).n e3 (⟨p,e1,(⟨(0:Int),[]⟩:aS),(⟨(0:Int),[]⟩:aS)⟩:dq).b))
    else
    (eF e r (cQ p e r tl) e1 out (⟨p,e1,(⟨(0:Int),[]⟩:aS),(⟨(0:Int),[]⟩:aS)⟩:dq))

def ij(p:(Option ci))(frag:Int):Option (List aS):=
 (p).bind fun p1=>
 (dC p1.Plan.Frags frag).bind fun e=>
 (mJ).bind fun r=>
 cQ p e r e.Nodes ([]:List aS)

def wG(x:Int×Int)(x1:Bool)(x2:Int)(x3:Int):Option (Option Nat×(Bool×Int×Int)):=
 some (some 0,(true,x.2,x.1))

def kP(p:da)(from1:Int):Option (Int×Int×Bool):=
 (rQ p from1).bind fun it=>
 ((itU it) (Option Nat×(Bool×Int×Int)) (Fq (fun x s=>wG x s.1 s.2.1 s.2.2)) (none,(false,(0:Int),(0:Int)))).bind fun r=>
 if r.1.1.isNone then
 (some ((0:Int),(0:Int),false))
 else
 (some (r.1.2.2.2,r.1.2.2.1,r.1.2.1))

def ph(place:Int)(n:aw):Option Bool:=
 some ((n.A==place)||(n.B==place))

def qC(p:(Option ci))(frag:Int):Option aw:=
  (p).bind fun p1=>
  (kP p1.Plan frag).bind fun r=>
  if(!r.2.2)then
  (some (⟨(0:Int),(0:Int),(0:Int),(0:Int),[],false,(⟨[]⟩:bp),[],[],[],[],(0:Int)⟩:aw))
  else
  ((p).bind fun p2=>
  (dC p2.Plan.Frags r.1).bind fun e=>
  (fb e.Nodes (ph r.2.1)).bind fun r1=>
  if(decide (r1<(0:Int)))then
  (some (⟨(0:Int),(0:Int),(0:Int),(0:Int),[],false,(⟨[]⟩:bp),[],[],[],[],(0:Int)⟩:aw))
  else
  ((p).bind fun p3=>
  (dC p3.Plan.Frags r.1).bind fun e1=>
  (dC e1.Nodes r1).bind fun e2=>
  some e2))

def ek(s2:(List gm))(eq:(gm→gm→Option Bool)):List gm→Nat→Option Bool
 |[],i=>
  some true
 |e::tl,i=>
  (dC s2 (i:Int)).bind fun e1=>
  (eq e e1).bind fun r=>
  if(!r)then
  (some false)
  else
  ((ek s2 eq tl) (i+1))

def gN(s1:(List gm))(s2:(List gm))(eq:(gm→gm→Option Bool)):Option Bool:=
 if((s1.length:Int) !=(s2.length:Int))then
 (some false)
 else
 (ek s2 eq s1 0)

def rR(p:gm)(y:gm):Option Bool:=
 some (p.Tag==y.Tag)

def gc(f:(bD→Option Bool)):List bD→Nat→Option Int
 |[],i=>
  some (-1:Int)
 |e::tl,i=>
  (f e).bind fun r=>
  if r then
  (some (i:Int))
  else
  ((gc f tl) (i+1))

def kw(s:(List bD))(f:(bD→Option Bool)):Option Int:=
 gc f s 0

def jy(s:(List bD))(f:(bD→Option Bool)):Option Bool:=
 (kw s f).bind fun r=>
 some (decide ((0:Int)≤r))

def Bj(n:bD):Option Bool:=
 (sk n.Tag).bind fun r=>
 some r

def Fe(e:bp):Option Bool:=
  (pL e).bind fun r=>
  (if(r==(0:Int))then((jy e.Nodes Bj).bind fun r1=>
  some (!r1))else some false).bind fun t=>
  some t

def iD(s:(List bD)):Option (List bD):=
 (ko ([]:List bD) s).bind fun x=>
 some x

def vJ(nx:(List bp)→(List Int)→Option (List bp))(out1:List bp)(open2:List Int):Option (List bp):=
 nx out1 open2

def vI(e3:Int)(nx1:Nat→bp→Option (List bp))(i:Nat)(part1:bp):Option (List bp):=
  (dC part1.Nodes (i:Int)).bind fun e6=>
  if(decide ((0:Int)≤e6.R))then
  ((some (part1.Nodes.set (i:Int).toNat ({e6 with R:=(IntKind.i64.wrap (e6.R-e3))}:bD))).bind fun st=>
  nx1 (i+1) ({part1 with Nodes:=st}:bp))
  else
  (nx1 (i+1) part1)

def qJ(nx:(List bp)→(List Int)→Option (List bp))(out:List bp)(y:List Int)(e3:Int):List bD→Nat→bp→Option (List bp)
  |[],i,part=>
    (ko out ([part])).bind fun out2=>
    vJ nx out2 y
  |e4::tl,i,part=>
    (dC part.Nodes (i:Int)).bind fun e5=>
    if(decide ((0:Int)≤e5.L))then
    ((some (part.Nodes.set (i:Int).toNat ({e5 with L:=(IntKind.i64.wrap (e5.L-e3))}:bD))).bind fun st1=>
    vI e3 (qJ nx out y e3 tl) i ({part with Nodes:=st1}:bp))
    else
    (vI e3 (qJ nx out y e3 tl) i part)

def nl(e:bp)(r:(List Int)×Bool):Nat→(List bp)→(List Int)→Option (List bp)
  |0,_,_=>none
  |n+1,out,open1=>
    if(decide ((0:Int)<(open1.length:Int)))then
    ((dC open1 (IntKind.i64.wrap ((open1.length:Int)-(1:Int)))).bind fun e1=>
    (dw open1 0 (IntKind.i64.wrap ((open1.length:Int)-(1:Int)))).bind fun y=>
    (dC e.Nodes e1).bind fun e2=>
    if(e2.Tag==(22:Int))then
    ((ko y ([e2.R,e2.L])).bind fun open3=>
    vJ (nl e r n) out open3)
    else
    ((dC r.1 e1).bind fun e3=>
    (dw e.Nodes e3 (IntKind.i64.wrap (e1+(1:Int)))).bind fun y1=>
    (iD y1).bind fun r1=>
    qJ (nl e r n) out y e3 r1 0 ({(⟨r1⟩:bp)with Nodes:=r1}:bp)))
    else
    (some out)

def Fg(e:bp):Option (List bp):=
 (ui e).bind fun r=>
 if(!r.2)then
 (some ([]:List bp))
 else
 (nl e r gK ([]:List bp) ([(IntKind.i64.wrap ((e.Nodes.length:Int)-(1:Int)))]))

def Ff(e:bp)(left:Int):Option (Int×Int×Bool):=
  (pL e).bind fun r=>
  (if(!((r !=(0:Int))||((e.Nodes.length:Int) !=(3:Int))))then((dC e.Nodes (2:Int)).bind fun e1=>
  some (e1.Tag !=(16:Int)))else some true).bind fun t=>
  if t then
  (some ((0:Int),(0:Int),false))
  else
  ((dC e.Nodes (0:Int)).bind fun e2=>
  (dC e.Nodes (1:Int)).bind fun e3=>
  if((e2.Tag !=(2:Int))||(e3.Tag !=(2:Int)))then
  (some ((0:Int),(0:Int),false))
  else
  (if((decide (left≤(min e2.Col e3.Col)))||(decide ((max e2.Col e3.Col)<left)))then
  (some ((0:Int),(0:Int),false))
  else
  (some ((min e2.Col e3.Col),(IntKind.i64.wrap ((max e2.Col e3.Col)-left)),true))))

def ta(b:aS)(held:List ((Int×Int)×Bool)):List Int→Nat→Option Bool
 |[],i1=>
  some true
 |e1::tl1,i1=>
  (dC b.Cols (i1:Int)).bind fun e2=>
  if(!((rW held (k2 ([e1,e2]))).getD false))then
  (some false)
  else
  ((ta b held tl1) (i1+1))

def qB(a1:aS)(b:aS)(left:Int):List bp→(List ((Int×Int)×Bool))→Option Bool
 |[],held=>
  ta b held a1.Cols 0
 |e::tl,held=>
  (Ff e left).bind fun r2=>
  if r2.2.2 then
  ((qB a1 b left tl) (jS held (k2 ([r2.1,r2.2.1])) true))
  else
  ((qB a1 b left tl) held)

def A9(n:aw)(a1:aS)(b:aS)(left:Int):Option Bool:=
  if(b.Kind==(3:Int))then
  (some (a1.Kind !=(3:Int)))
  else
  ((if(!(((a1.Kind !=(2:Int))||(b.Kind !=(2:Int)))||((a1.Cols.length:Int) !=(b.Cols.length:Int))))then((Fe n.Cond).bind fun r=>
  some (!r))else some true).bind fun t=>
  if t then
  (some false)
  else
  ((Fg n.Cond).bind fun r1=>
  qB a1 b left r1 ([]:List ((Int×Int)×Bool))))

def td(keys:(List Int))(c:Int):Option Bool:=
 (d5 keys c).bind fun r=>
 some (!r)

def ze(a1:aS)(keys:(List Int)):Option Bool:=
  (if(a1.Kind==(2:Int))then((ef a1.Cols (td keys)).bind fun r=>
  some (!r))else some false).bind fun t=>
  some t

def jj(s2:(List kW)):List kW→Nat→Option Bool
 |[],i=>
  some true
 |e::tl,i=>
  (dC s2 (i:Int)).bind fun e1=>
  if(!decide (e=e1))then
  (some false)
  else
  ((jj s2 tl) (i+1))

def nz(s1:(List kW))(s2:(List kW)):Option Bool:=
 if((s1.length:Int) !=(s2.length:Int))then
 (some false)
 else
 (jj s2 s1 0)

def nT(p:(Option ci))(frag:Int)(e:cL)(e1:aw)(e2:aS)(x:Bool):Option Bool:=
  if x then
  ((ze e2 e1.Keys).bind fun r1=>
  some r1)
  else
  (if(e1.Op==(6:Int))then
  (some (e2.Kind==(2:Int)))
  else
  (if(e1.Op==(10:Int))then
  (some (e2.Kind !=(3:Int)))
  else
  (if(e1.Op==(8:Int))then
  ((qC p frag).bind fun r2=>
  (if((((e2.Kind !=(3:Int))&&(e.Way==(3:Int)))&&(r2.Op==(8:Int)))&&(r2.Limit==e1.Limit))then((nz r2.Order e1.Order).bind fun r3=>
  some r3)else some false).bind fun t1=>
  some t1)
  else
  (some true))))

def nU(p:(Option ci))(frag:Int)(l:(List aS))(e:cL)(e1:aw):Option Bool:=
  if((e.At==(2:Int))||(decide (e1.A<(0:Int))))then
  (some true)
  else
  ((dC l e1.A).bind fun e2=>
  if(e1.Op==(2:Int))then
  ((dC l e1.B).bind fun e3=>
  (p).bind fun p2=>
  (dC p2.kinds frag).bind fun e4=>
  (dC e4 e1.A).bind fun e5=>
  (A9 e1 e2 e3 (e5.length:Int)).bind fun r=>
  some r)
  else
  (if(e1.Op==(7:Int))then
  ((if(e2.Kind !=(3:Int))then((dC l e1.B).bind fun e6=>
  some (e6.Kind !=(3:Int)))else some false).bind fun t=>
  some t)
  else
  (if(e1.Op==(4:Int))then
  (nT p frag e e1 e2 (e1.Op==(4:Int)))
  else
  (nT p frag e e1 e2 (e1.Op==(11:Int))))))

def te(p:(Option ci))(frag:Int)(at1:Int)(l:(List aS)):Option Bool:=
  (p).bind fun p1=>
  (dC p1.Plan.Frags frag).bind fun e=>
  (dC e.Nodes at1).bind fun e1=>
  if(e1.Op==(10:Int))then
  ((qC p frag).bind fun r4=>
  (gN e1.Aggs r4.Aggs rR).bind fun r5=>
  if(((r4.Op !=(11:Int))||(!r5))||((e1.Keys.length:Int) !=(r4.Keys.length:Int)))then
  (some false)
  else
  (nU p frag l e e1))
  else
  (nU p frag l e e1)

def ru(frag:Int)(place:Int):Option (Int×Int×Int):=
 if(decide ((0:Int)≤frag))then
 (some (frag,place,(280:Int)))
 else
 (some ((0:Int),(0:Int),(0:Int)))

def uA(r:(Option ci)×Int×Int×Int)(nx:Nat→Int→Int→Option (Int×Int×Int))(i:Nat)(r1:(List aS)):List aw→Nat→Int→Int→Option (Int×Int×Int)
 |[],i1,frag2,place2=>
  (dC r1 (IntKind.i64.wrap ((r1.length:Int)-(1:Int)))).bind fun e2=>
  if(e2.Kind==(3:Int))then
  (ru (i:Int) (IntKind.i64.wrap ((r1.length:Int)-(1:Int))))
  else
  (nx (i+1) frag2 place2)
 |e1::tl1,i1,frag2,place2=>
  (te r.1 (i:Int) (i1:Int) r1).bind fun r2=>
  if(!r2)then
  (ru (i:Int) (i1:Int))
  else
  ((uA r nx i r1 tl1) (i1+1) frag2 place2)

def rt(r:(Option ci)×Int×Int×Int):List cL→Nat→Int→Int→Option (Int×Int×Int)
 |[],i,frag1,place1=>
  ru frag1 place1
 |e::tl,i,frag1,place1=>
  (ij r.1 (i:Int)).bind fun r1=>
  uA r (rt r tl) i r1 e.Nodes 0 frag1 place1

def yp(q:da)(c:bG):Option (Int×Int×Int):=
 (na q c).bind fun r=>
 if(r.2.2.2 !=(0:Int))then
 (some (r.2.1,r.2.2.1,r.2.2.2))
 else
 (rt r q.Frags 0 (-1:Int) (0:Int))

def ml(q:da)(c:bG)(frag:Int):Option ((List aS)×Int):=
  (na q c).bind fun r=>
  if(r.2.2.2 !=(0:Int))then
  (some ([],r.2.2.2))
  else
  (if((decide (frag<(0:Int)))||(decide ((q.Frags.length:Int)≤frag)))then
  (some ([],(2:Int)))
  else
  ((ij r.1 frag).bind fun r1=>
  some (r1,(0:Int))))

def Bf:Option (bG×da):=
 some ((⟨[(⟨[116],[(⟨[97],(2:Int)⟩:bL),(⟨[98],(2:Int)⟩:bL)],[(0:Int)]⟩:bU)]⟩:bG),(⟨[(⟨[(⟨(1:Int),(-1:Int),(-1:Int),(0:Int),[(2:Int),(2:Int)],false,(⟨[]⟩:bp),[],[],[],[],(0:Int)⟩:aw),(⟨(6:Int),(0:Int),(-1:Int),(0:Int),[],false,(⟨[]⟩:bp),[],[],[],[],(0:Int)⟩:aw)],(1:Int),(3:Int),[]⟩:cL),(⟨[(⟨(9:Int),(-1:Int),(-1:Int),(0:Int),[(2:Int),(2:Int)],false,(⟨[]⟩:bp),[],[],[],[],(0:Int)⟩:aw)],(2:Int),(4:Int),[]⟩:cL)]⟩:da))

def wK:Option Bool:=
  (Bf).bind fun r=>
  (yp r.2 r.1).bind fun r1=>
  (ml r.2 r.1 (0:Int)).bind fun r2=>
  (yq (⟨[]⟩:da) r.1).bind fun r3=>
  (kP r.2 (0:Int)).bind fun r4=>
  (if(((((((r1.2.2==(0:Int))&&(r2.2==(0:Int)))&&(r3.2.2==(290:Int)))&&r4.2.2)&&(r4.1==(1:Int)))&&(r4.2.1==(0:Int)))&&((r2.1.length:Int)==(2:Int)))then((dC r2.1 (1:Int)).bind fun e=>
  some (e.Kind==(2:Int)))else some false).bind fun t=>
  (if t then((dC r2.1 (1:Int)).bind fun e1=>
  some ((e1.Cols.length:Int)==(1:Int)))else some false).bind fun t1=>
  some t1

def my(l:(List bU))(most:Int):Option (List bU):=
 (dw l 0 (min (l.length:Int) most)).bind fun y=>
 (ko ([]:List bU) y).bind fun x=>
 some x

def jU(l:(List bL))(most:Int):Option (List bL):=
 (dw l 0 (min (l.length:Int) most)).bind fun y=>
 (ko ([]:List bL) y).bind fun x=>
 some x

def gC(l:(List Int))(most:Int):Option (List Int):=
 (dw l 0 (min (l.length:Int) most)).bind fun y=>
 (ko ([]:List Int) y).bind fun x=>
 some x

def oJ:List bU→Nat→bG→Option bG
 |[],i,out=>
  some out
 |e::tl,i,out=>
  (dC out.Tables (i:Int)).bind fun e1=>
  (dC out.Tables (i:Int)).bind fun e2=>
  (jU e2.Columns (5:Int)).bind fun r1=>
  (gC e2.Keys (5:Int)).bind fun r2=>
  (some (out.Tables.set (i:Int).toNat ({e2 with Columns:=r1}:bU))).bind fun st=>
  (dC st (i:Int)).bind fun e3=>
  (some (st.set (i:Int).toNat ({e3 with Keys:=r2}:bU))).bind fun st1=>
  (oJ tl) (i+1) ({out with Tables:=st1}:bG)

def ub(c:bG):Option bG:=
 (my c.Tables (5:Int)).bind fun r=>
 oJ r 0 ({(⟨r⟩:bG)with Tables:=r}:bG)

def mz(l:(List aw))(most:Int):Option (List aw):=
 (dw l 0 (min (l.length:Int) most)).bind fun y=>
 (ko ([]:List aw) y).bind fun x=>
 some x

def nY(l:(List gm))(most:Int):Option (List gm):=
 (dw l 0 (min (l.length:Int) most)).bind fun y=>
 (ko ([]:List gm) y).bind fun x=>
 some x

def nf(l:(List bp))(most:Int):Option (List bp):=
 (dw l 0 (min (l.length:Int) most)).bind fun y=>
 (ko ([]:List bp) y).bind fun x=>
 some x

def l0(l:(List kW))(most:Int):Option (List kW):=
 (dw l 0 (min (l.length:Int) most)).bind fun y=>
 (ko ([]:List kW) y).bind fun x=>
 some x

def mA(l:(List bD))(most:Int):Option (List bD):=
 (dw l 0 (min (l.length:Int) most)).bind fun y=>
 (ko ([]:List bD) y).bind fun x=>
 some x

def oK:List bD→Nat→bp→Option bp
 |[],i,out=>
  some out
 |e1::tl,i,out=>
  (dC out.Nodes (i:Int)).bind fun e2=>
  (dw e2.Value.S 0 (min (e2.Value.S.length:Int) (41:Int))).bind fun y=>
  (some (out.Nodes.set (i:Int).toNat ({e2 with Value:=({e2.Value with S:=y}:dQ)}:bD))).bind fun st=>
  (oK tl) (i+1) ({out with Nodes:=st}:bp)

def p6(e:bp):Option bp:=
 (mA e.Nodes (60:Int)).bind fun r=>
 oK r 0 ({(⟨r⟩:bp)with Nodes:=r}:bp)

def mK(nx:Nat→(List aw)→Option (List aw))(i:Nat)(out:List aw):List bp→Nat→aw→Option (List aw)
 |[],i2,n1=>
  (p6 n1.Cond).bind fun r6=>
  (some (out.set (i:Int).toNat ({({({n1 with Cond:=r6}:aw)with Aggs:=n1.Aggs}:aw)with Items:=n1.Items}:aw))).bind fun st=>
  nx (i+1) st
 |e4::tl1,i2,n1=>
  (dC n1.Items (i2:Int)).bind fun e5=>
  (dC n1.Items (i2:Int)).bind fun e6=>
  (p6 e6).bind fun r7=>
  (some (n1.Items.set (i2:Int).toNat r7)).bind fun st1=>
  (mK nx i out tl1) (i2+1) ({n1 with Items:=st1}:aw)

def mL(nx:Nat→(List aw)→Option (List aw))(i:Nat)(out:List aw):List gm→Nat→aw→Option (List aw)
 |[],i1,n=>
  mK nx i out n.Items 0 n
 |e3::tl,i1,n=>
  (dC n.Aggs (i1:Int)).bind fun e7=>
  (dC n.Aggs (i1:Int)).bind fun e8=>
  (p6 e8.Arg).bind fun r8=>
  (some (n.Aggs.set (i1:Int).toNat ({e8 with Arg:=r8}:gm))).bind fun st2=>
  (mL nx i out tl) (i1+1) ({n with Aggs:=st2}:aw)

def jT:Nat→Nat→(List aw)→Option (List aw)
 |0,i,out=>
  some out
 |k1+1,i,out=>
  (dC out (i:Int)).bind fun e1=>
  (dC out (i:Int)).bind fun e2=>
  (gC e2.Kinds (17:Int)).bind fun r1=>
  (gC e2.Keys (6:Int)).bind fun r2=>
  (nY e2.Aggs (14:Int)).bind fun r3=>
  (nf e2.Items (17:Int)).bind fun r4=>
  (l0 e2.Order (5:Int)).bind fun r5=>
  mL (jT k1) i out r3 0 ({({({(aw.mk e2.Op e2.A e2.B e2.Table r1 e2.Left e2.Cond r2 e2.Aggs e2.Items e2.Order e2.Limit)with Order:=r5}:aw)with Aggs:=r3}:aw)with Items:=r4}:aw)

def rX(l:(List aw)):Option (List aw):=
 (mz l (61:Int)).bind fun r=>
 jT r.length 0 r

def tg(r2:(List aw))(r5:Int×Int×Int):List aS→Nat→Option Bool
  |[],i1=>
    (if(!(r5.2.2==(0:Int)))then((dC ((⟨r2,(2:Int),(4:Int),[]⟩:cL).Nodes) (IntKind.i64.wrap ((((⟨r2,(2:Int),(4:Int),[]⟩:cL).Nodes).length:Int)-(1:Int)))).bind fun e3=>
    some (e3.Op==(10:Int)))else some true).bind fun t=>
    some t
  |e2::tl1,i1=>
    (if(!(e2.Kind !=(4:Int)))then((dC ((⟨r2,(2:Int),(4:Int),[]⟩:cL).Nodes) (i1:Int)).bind fun e4=>
    some ((e4.Op==(10:Int))&&(((r5.2.2 !=(280:Int))||(r5.1 !=(1:Int)))||(r5.2.1 !=(i1:Int)))))else some true).bind fun t1=>
    if t1 then
    (some false)
    else
    ((tg r2 r5 tl1) (i1+1))

def yw(r1:bG)(r2:(List aw)):List bL→(List Int)→Option Bool
  |[],kinds=>
    (yq (⟨[(⟨[(⟨(1:Int),(-1:Int),(-1:Int),(0:Int),kinds,false,(⟨[]⟩:bp),[],[],[],[],(0:Int)⟩:aw)],(1:Int),(3:Int),[]⟩:cL),(⟨r2,(2:Int),(4:Int),[]⟩:cL)]⟩:da) r1).bind fun r4=>
    (yp (⟨[(⟨[(⟨(1:Int),(-1:Int),(-1:Int),(0:Int),kinds,false,(⟨[]⟩:bp),[],[],[],[],(0:Int)⟩:aw)],(1:Int),(3:Int),[]⟩:cL),(⟨r2,(2:Int),(4:Int),[]⟩:cL)]⟩:da) r1).bind fun r5=>
    if(r4.2.2 !=(0:Int))then
    (some (((r4.2.2==r5.2.2)&&(r4.1==r5.1))&&(r4.2.1==r5.2.1)))
    else
    ((ml (⟨[(⟨[(⟨(1:Int),(-1:Int),(-1:Int),(0:Int),kinds,false,(⟨[]⟩:bp),[],[],[],[],(0:Int)⟩:aw)],(1:Int),(3:Int),[]⟩:cL),(⟨r2,(2:Int),(4:Int),[]⟩:cL)]⟩:da) r1 (1:Int)).bind fun r6=>
    if((r6.2 !=(0:Int))||((r6.1.length:Int) !=(((⟨r2,(2:Int),(4:Int),[]⟩:cL).Nodes).length:Int)))then
    (some false)
    else
    (tg r2 r5 r6.1 0))
  |e1::tl,kinds=>
    (ko kinds ([e1.Kind])).bind fun kinds1=>
    (yw r1 r2 tl) kinds1

def ne(l:(List cL))(most:Int):Option (List cL):=
 (dw l 0 (min (l.length:Int) most)).bind fun y=>
 (ko ([]:List cL) y).bind fun x=>
 some x

def qF:List cL→Nat→da→Option da
 |[],i,out=>
  some out
 |e::tl,i,out=>
  (dC out.Frags (i:Int)).bind fun e1=>
  (dC out.Frags (i:Int)).bind fun e2=>
  (rX e2.Nodes).bind fun r1=>
  (gC e2.Cols (17:Int)).bind fun r2=>
  (some (out.Frags.set (i:Int).toNat (cL.mk r1 e2.At e2.Way r2))).bind fun st=>
  (qF tl) (i+1) ({out with Frags:=st}:da)

def xk(p:da):Option da:=
 (ne p.Frags (31:Int)).bind fun r=>
 qF r 0 ({(⟨r⟩:da)with Frags:=r}:da)

def rO(c:Int):Option Bool:=
 some ((decide ((97:Int)≤c))&&(decide (c≤(122:Int))))

def qy(s:iZ):List iZ→Option Bool
 |[]=>
  some false
 |e::tl=>
  if(e==s)then
  (some true)
  else
  ((qy s tl))

def Ao(l:(List iZ))(s:iZ):Option Bool:=
 qy s l

def wE:Option (List iZ):=
 some ([[83,69,76,69,67,84],[68,73,83,84,73,78,67,84],[70,82,79,77],[76,69,70,84],[74,79,73,78],[79,78],[87,72,69,82,69],[71,82,79,85,80],[66,89],[72,65,86,73,78,71],[85,78,73,79,78],[65,76,76],[79,82,68,69,82],[76,73,77,73,84],[65,83,67],[68,69,83,67],[65,83],[65,78,68],[79,82],[78,79,84],[73,83],[78,85,76,76],[84,82,85,69],[70,65,76,83,69],[67,79,85,78,84],[83,85,77],[77,73,78],[77,65,88]])

def sy(s:iZ):Option Bool:=
 (wE).bind fun r=>
 (Ao r s).bind fun r1=>
 some r1

def oA(nx:(List Int)→Int→Option iZ)(out:List Int)(i:Int)(c1:Int):Option iZ:=
 (ko out ([c1])).bind fun out1=>
 nx out1 (IntKind.i64.wrap (i+(1:Int)))

def ln(s:iZ):Nat→(List Int)→Int→Option iZ
  |0,_,_=>none
  |n+1,out,i=>
    if(decide (i<(s.length:Int)))then
    ((zt s i).bind fun b=>
    (rO b).bind fun r=>
    if r then
    (oA (ln s n) out i (IntKind.u8.wrap ((IntKind.u8.wrap (b-(97:Int)))+(65:Int))))
    else
    (oA (ln s n) out i b))
    else
    (some (sm out))

def tZ(s:iZ):Option iZ:=
 ln s gK ([]:List Int) (0:Int)

def wD(c:Int):Option Bool:=
 some ((decide ((48:Int)≤c))&&(decide (c≤(57:Int))))

def nB(s:iZ):Nat→Int→Option Bool
  |0,_=>none
  |n+1,i=>
    if(decide (i<(s.length:Int)))then
    ((zt s i).bind fun b1=>
    (rO b1).bind fun r3=>
    (if(!r3)then((zt s i).bind fun b2=>
    (wD b2).bind fun r4=>
    some (!r4))else some false).bind fun t2=>
    (if t2 then((zt s i).bind fun b3=>
    some (b3 !=(95:Int)))else some false).bind fun t3=>
    if t3 then
    (some false)
    else
    ((nB s n) (IntKind.i64.wrap (i+(1:Int)))))
    else
    (some true)

def qz(s:iZ):Option Bool:=
  (if(!((decide ((s.length:Int)<(1:Int)))||(decide ((16:Int)<(s.length:Int)))))then((zt s (0:Int)).bind fun b=>
  (rO b).bind fun r=>
  some (!r))else some true).bind fun t=>
  (if(!t)then((tZ s).bind fun r1=>
  (sy r1).bind fun r2=>
  some r2)else some true).bind fun t1=>
  if t1 then
  (some false)
  else
  (nB s gK (0:Int))

def vw(kind:Int):Option iZ:=
  if(kind==(1:Int))then
  (some ([98,111,111,108]))
  else
  (if(kind==(2:Int))then
  (some ([105,110,116]))
  else
  (if(kind==(3:Int))then
  (some ([116,101,120,116]))
  else
  (some ([]))))

def ky(t:bU)(nx:Int→Option Bool)(i:Int)(e:bL):Nat→Int→Option Bool
  |0,_=>none
  |n1+1,k=>
    if(decide (k<i))then
    ((dC t.Columns k).bind fun e1=>
    if(e1.Name==e.Name)then
    (some false)
    else
    ((ky t nx i e n1) (IntKind.i64.wrap (k+(1:Int)))))
    else
    (nx (IntKind.i64.wrap (i+(1:Int))))

def kx(t:bU):Nat→Int→Option Bool
  |0,_=>none
  |n2+1,i1=>
    if(decide (i1<(t.Keys.length:Int)))then
    ((dC t.Keys i1).bind fun e2=>
    (if(!((decide (e2<(0:Int)))||(decide ((t.Columns.length:Int)≤e2))))then((if(decide ((0:Int)<i1))then((dC t.Keys (IntKind.i64.wrap (i1-(1:Int)))).bind fun e3=>
    some (decide (e2≤e3)))else some false).bind fun t3=>
    some t3)else some true).bind fun t2=>
    if t2 then
    (some false)
    else
    ((kx t n2) (IntKind.i64.wrap (i1+(1:Int)))))
    else
    (some true)

def iY(t:bU):Nat→Int→Option Bool
  |0,_=>none
  |n+1,i=>
    if(decide (i<(t.Columns.length:Int)))then
    ((dC t.Columns i).bind fun e=>
    (qz e.Name).bind fun r1=>
    (if(!(!r1))then((vw e.Kind).bind fun r2=>
    some (r2==([])))else some true).bind fun t1=>
    if t1 then
    (some false)
    else
    (ky t (iY t n) i e gK (0:Int)))
    else
    (kx t gK (0:Int))

def oZ(t:bU):Option Bool:=
 (qz t.Name).bind fun r=>
 if(((!r)||(decide ((t.Columns.length:Int)<(1:Int))))||(decide ((4:Int)<(t.Columns.length:Int))))then
 (some false)
 else
 (iY t gK (0:Int))

def oz(c:bG)(nx:Int→Option Bool)(i:Int)(e:bU):Nat→Int→Option Bool
  |0,_=>none
  |n1+1,k=>
    if(decide (k<i))then
    ((dC c.Tables k).bind fun e1=>
    if(e1.Name==e.Name)then
    (some false)
    else
    ((oz c nx i e n1) (IntKind.i64.wrap (k+(1:Int)))))
    else
    (nx (IntKind.i64.wrap (i+(1:Int))))

def mH(c:bG):Nat→Int→Option Bool
  |0,_=>none
  |n+1,i=>
    if(decide (i<(c.Tables.length:Int)))then
    ((dC c.Tables i).bind fun e=>
    (oZ e).bind fun r=>
    if(!r)then
    (some false)
    else
    (oz c (mH c n) i e gK (0:Int)))
    else
    (some true)

def tW(c:bG):Option Bool:=
 if(decide ((4:Int)<(c.Tables.length:Int)))then
 (some false)
 else
 (mH c gK (0:Int))

def jL(x1:Bool):Option Int:=
 if x1 then
 (some (1:Int))
 else
 (some (-1:Int))

def oy(op:Int)(x:Bool):Option Int:=
  if x then
  (some (2:Int))
  else
  (if(op==(3:Int))then
  (jL (op==(3:Int)))
  else
  (if(op==(4:Int))then
  (jL (op==(4:Int)))
  else
  (if(op==(5:Int))then
  (jL (op==(5:Int)))
  else
  (if(op==(6:Int))then
  (jL (op==(6:Int)))
  else
  (jL (op==(8:Int)))))))

def pU(op:Int):Option Int:=
  if(op==(1:Int))then
  (some (0:Int))
  else
  (if(op==(2:Int))then
  (oy op (op==(2:Int)))
  else
  (oy op (op==(7:Int))))

def qv(op:Int)(x:Bool):Option Int:=
  if x then
  (some (1:Int))
  else
  ((pU op).bind fun r=>
  some r)

def tS(op:Int):Option Int:=
  if(op==(9:Int))then
  (some (0:Int))
  else
  (if(op==(10:Int))then
  (qv op (op==(10:Int)))
  else
  (qv op (op==(11:Int))))

def f8:Nat→(List aw)→Int→Option Int
  |0,_,_=>none
  |fu+1,l,at1=>
    if((decide (at1<(0:Int)))||(decide ((l.length:Int)≤at1)))then
    (some (0:Int))
    else
    ((dC l at1).bind fun e=>
    (tS e.Op).bind fun r=>
    if(r==(0:Int))then
    (if((e.A==(-1:Int))&&(e.B==(-1:Int)))then
    (some (1:Int))
    else
    (some (0:Int)))
    else
    (if(r==(1:Int))then
    (((f8 fu) l (IntKind.i64.wrap (at1-(1:Int)))).bind fun r1=>
    if(((e.A==(IntKind.i64.wrap (at1-(1:Int))))&&(e.B==(-1:Int)))&&(decide ((0:Int)<r1)))then
    (some (IntKind.i64.wrap (r1+(1:Int))))
    else
    (some (0:Int)))
    else
    (if(r==(2:Int))then
    (((f8 fu) l (IntKind.i64.wrap (at1-(1:Int)))).bind fun r2=>
    if(((r2==(0:Int))||(e.B !=(IntKind.i64.wrap (at1-(1:Int)))))||(e.A !=(IntKind.i64.wrap ((IntKind.i64.wrap (at1-(1:Int)))-r2))))then
    (some (0:Int))
    else
    (((f8 fu) l e.A).bind fun r3=>
    if(decide ((0:Int)<r3))then
    (some (IntKind.i64.wrap ((IntKind.i64.wrap (r3+r2))+(1:Int))))
    else
    (some (0:Int))))
    else
    (some (0:Int)))))

def s5(l:(List aw))(at1:Int):Option Int:=
 f8 gK l at1

def oY(n:aw):Option Bool:=
  if((n.Op !=(1:Int))&&((n.Table !=(0:Int))||(decide ((0:Int)<(n.Kinds.length:Int)))))then
  (some false)
  else
  (if(((n.Op !=(2:Int))&&n.Left)||(((n.Op !=(2:Int))&&(n.Op !=(3:Int)))&&(decide ((0:Int)<(n.Cond.Nodes.length:Int)))))then
  (some false)
  else
  (if(((n.Op !=(4:Int))&&((decide ((0:Int)<(n.Keys.length:Int)))||(decide ((0:Int)<(n.Aggs.length:Int)))))||((n.Op !=(5:Int))&&(decide ((0:Int)<(n.Items.length:Int)))))then
  (some false)
  else
  (some ((n.Op==(8:Int))||(((n.Order.length:Int)==(0:Int))&&(n.Limit==(0:Int)))))))

def m8(n:aw)(x:Bool):Option Bool:=
  if x then
  ((oY (aw.mk (4:Int) n.A n.B n.Table n.Kinds n.Left n.Cond n.Keys n.Aggs n.Items n.Order n.Limit)).bind fun r1=>
  some r1)
  else
  ((oY n).bind fun r2=>
  some r2)

def oX(n:aw):Option Bool:=
  if(n.Op==(9:Int))then
  ((oY (aw.mk (1:Int) n.A n.B n.Table n.Kinds n.Left n.Cond n.Keys n.Aggs n.Items n.Order n.Limit)).bind fun r=>
  some r)
  else
  (if(n.Op==(10:Int))then
  (m8 n (n.Op==(10:Int)))
  else
  (m8 n (n.Op==(11:Int))))

def mF(n:aw):List Int→Bool→Option ((List Int)×Bool)
 |[],ok=>
  some (n.Kinds,ok)
 |e::tl,ok=>
  (mF n tl) ((ok&&(decide ((0:Int)≤e)))&&(decide (e≤(4:Int))))

def tR(n:aw):Option ((List Int)×Bool):=
 mF n n.Kinds ((((decide ((0:Int)≤n.Table))&&(decide (n.Table<(30:Int))))&&(decide ((1:Int)≤(n.Kinds.length:Int))))&&(decide ((n.Kinds.length:Int)≤(16:Int))))

def uw(nx1:bp→Option bp)(out1:bp)(n1:bD):Option bp:=
 (ko out1.Nodes ([n1])).bind fun l5=>
 nx1 ({out1 with Nodes:=l5}:bp)

def ux(out:bp)(nx1:bp→Option bp)(out1:bp)(n:bD):Option bp:=
 if(decide ((0:Int)≤n.R))then
 (uw nx1 out1 (bD.mk n.Tag n.L (IntKind.i64.wrap (n.R+(out.Nodes.length:Int))) n.Col n.Value))
 else
 (uw nx1 out1 n)

def nF(nx:Nat→bD→bp→Option bp)(i:Nat)(root1:bD)(out:bp):List bD→bp→Option bp
 |[],out1=>
  if((i:Int)==(0:Int))then
  (nx (i+1) (bD.mk root1.Tag (IntKind.i64.wrap ((out1.Nodes.length:Int)-(1:Int))) root1.R root1.Col root1.Value) out1)
  else
  (nx (i+1) (bD.mk root1.Tag root1.L (IntKind.i64.wrap ((out1.Nodes.length:Int)-(1:Int))) root1.Col root1.Value) out1)
 |e1::tl1,out1=>
  if(decide ((0:Int)≤e1.L))then
  (ux out (nF nx i root1 out tl1) out1 (bD.mk e1.Tag (IntKind.i64.wrap (e1.L+(out.Nodes.length:Int))) e1.R e1.Col e1.Value))
  else
  (ux out (nF nx i root1 out tl1) out1 e1)

def mi:List bp→Nat→bD→bp→Option bp
 |[],i,root1,out=>
  (ko out.Nodes ([root1])).bind fun l2=>
  some ({out with Nodes:=l2}:bp)
 |e::tl,i,root1,out=>
  nF (mi tl) i root1 out e.Nodes out

def vx(root:bD)(l:(List bp)):Option bp:=
 mi l 0 (bD.mk root.Tag (-1:Int) (-1:Int) root.Col root.Value) ({(⟨[]⟩:bp)with Nodes:=([]:List bD)}:bp)

def rn:List Int→Option Bool
 |[]=>
  some false
 |e::tl=>
  if(e==(4:Int))then
  (some true)
  else
  ((rn tl))

def s4(kinds:(List Int)):Option Bool:=
 rn kinds

def dV:Nat→eC→Int→Option Int
  |0,_,_=>none
  |fu+1,l,at1=>
    if((decide (at1<(0:Int)))||(decide ((l.Nodes.length:Int)≤at1)))then
    (some (0:Int))
    else
    ((dC l.Nodes at1).bind fun e=>
    (pU e.Op).bind fun r=>
    if(r==(0:Int))then
    (if((e.A==(-1:Int))&&(e.B==(-1:Int)))then
    (some (1:Int))
    else
    (some (0:Int)))
    else
    (if(r==(1:Int))then
    (if((e.A==(IntKind.i64.wrap (at1-(1:Int))))&&(e.B==(-1:Int)))then
    (((dV fu) l e.A).bind fun r1=>
    if(decide ((0:Int)<r1))then
    (some (IntKind.i64.wrap (r1+(1:Int))))
    else
    (some (0:Int)))
    else
    (some (0:Int)))
    else
    (if(r==(2:Int))then
    (if(e.B==(IntKind.i64.wrap (at1-(1:Int))))then
    (((dV fu) l e.B).bind fun r2=>
    if((decide ((0:Int)<r2))&&(e.A==(IntKind.i64.wrap (e.B-r2))))then
    (((dV fu) l e.A).bind fun r3=>
    if(decide ((0:Int)<r3))then
    (some (IntKind.i64.wrap ((IntKind.i64.wrap (r3+r2))+(1:Int))))
    else
    (some (0:Int)))
    else
    (some (0:Int)))
    else
    (some (0:Int)))
    else
    (some (0:Int)))))

def ym(l:eC)(at1:Int):Option Int:=
 dV gK l at1

def wC(tag:Int):Option Int:=
  if((decide (tag<(1:Int)))||(decide ((23:Int)<tag)))then
  (some (-1:Int))
  else
  (if(decide (tag≤(3:Int)))then
  (some (0:Int))
  else
  (if(decide (tag≤(11:Int)))then
  (some (1:Int))
  else
  (some (2:Int))))

def tY(tag:Int):Option Int:=
  if((tag==(3:Int))||((decide ((8:Int)≤tag))&&(decide (tag≤(11:Int)))))then
  (some (-1:Int))
  else
  ((wC tag).bind fun r=>
  some r)

def oB(v:dQ):Option Bool:=
  if(v.Kind==(0:Int))then
  (some (decide (v=(⟨(0:Int),(0:Int),(0:Int),[]⟩:dQ))))
  else
  (if(v.Kind==(1:Int))then
  (some (((v.U==(0:Int))&&(v.S==([])))&&((v.N==(0:Int))||(v.N==(1:Int)))))
  else
  (if(v.Kind==(2:Int))then
  (some ((v.U==(0:Int))&&(v.S==([]))))
  else
  (if(v.Kind==(3:Int))then
  (some (((v.N==(0:Int))&&(v.U==(0:Int)))&&(decide ((v.S.length:Int)≤(40:Int)))))
  else
  (some ((v.Kind==(4:Int))&&(v.S==([])))))))

def t6(v:dQ):Option Bool:=
 (oB v).bind fun r=>
 some (r&&(v.Kind !=(4:Int)))

def lV(n:bD):Option Bool:=
  if(n.Tag==(1:Int))then
  ((t6 n.Value).bind fun r=>
  some (r&&(n.Col==(0:Int))))
  else
  (if(n.Tag==(2:Int))then
  (some (((decide (n.Value=(⟨(0:Int),(0:Int),(0:Int),[]⟩:dQ)))&&(decide ((0:Int)≤n.Col)))&&(decide (n.Col<(16:Int)))))
  else
  (some ((decide (n.Value=(⟨(0:Int),(0:Int),(0:Int),[]⟩:dQ)))&&(n.Col==(0:Int)))))

def iL:Nat→bp→Int→Option Int
  |0,_,_=>none
  |fu+1,e,place=>
    if((decide (place<(0:Int)))||(decide ((e.Nodes.length:Int)≤place)))then
    (some (0:Int))
    else
    ((dC e.Nodes place).bind fun e1=>
    (tY e1.Tag).bind fun r=>
    (if(!(decide (r<(0:Int))))then((lV e1).bind fun r1=>
    some (!r1))else some true).bind fun t=>
    if t then
    (some (0:Int))
    else
    (if(r==(0:Int))then
    (if((e1.L !=(-1:Int))||(e1.R !=(-1:Int)))then
    (some (0:Int))
    else
    (some (1:Int)))
    else
    (((iL fu) e (IntKind.i64.wrap (place-(1:Int)))).bind fun r2=>
    if(r2==(0:Int))then
    (some (0:Int))
    else
    (if(r==(1:Int))then
    (if((e1.L !=(IntKind.i64.wrap (place-(1:Int))))||(e1.R !=(-1:Int)))then
    (some (0:Int))
    else
    (some (IntKind.i64.wrap (r2+(1:Int)))))
    else
    (((iL fu) e (IntKind.i64.wrap ((IntKind.i64.wrap (place-(1:Int)))-r2))).bind fun r3=>
    if(((r3==(0:Int))||(e1.R !=(IntKind.i64.wrap (place-(1:Int)))))||(e1.L !=(IntKind.i64.wrap ((IntKind.i64.wrap (place-(1:Int)))-r2))))then
    (some (0:Int))
    else
    (some (IntKind.i64.wrap ((IntKind.i64.wrap (r3+r2))+(1:Int)))))))))

def yn(e:bp)(place:Int):Option Int:=
 iL gK e place

def tX(e:bp):Option Bool:=
  (if((decide ((1:Int)≤(e.Nodes.length:Int)))&&(decide ((e.Nodes.length:Int)≤(1000:Int))))then((yn e (IntKind.i64.wrap ((e.Nodes.length:Int)-(1:Int)))).bind fun r=>
  some (r==(e.Nodes.length:Int)))else some false).bind fun t=>
  some t

def pG(k:Int)(want:Int):Option Bool:=
 some ((k==want)||(k==(0:Int)))

def q6(tag:Int)(l:Int)(r:Int):Option (Int×Bool):=
  if((tag==(4:Int))||((decide ((12:Int)≤tag))&&(decide (tag≤(15:Int)))))then
  ((pG l (2:Int)).bind fun r1=>
  (if r1 then((pG r (2:Int)).bind fun r2=>
  some r2)else some false).bind fun t=>
  some ((2:Int),t))
  else
  (if((tag==(5:Int))||(decide ((22:Int)≤tag)))then
  ((pG l (1:Int)).bind fun r3=>
  (if r3 then((pG r (1:Int)).bind fun r4=>
  some r4)else some false).bind fun t1=>
  some ((1:Int),t1))
  else
  (if((tag==(6:Int))||(tag==(7:Int)))then
  (some ((1:Int),true))
  else
  (some ((1:Int),(((l==r)||(l==(0:Int)))||(r==(0:Int)))))))

def pm(nx2:(List Int)→Option (Int×Int))(e3:bD)(own:List Int)(e6:Int)(r1:Int):Option (Int×Int):=
  (q6 e3.Tag e6 r1).bind fun r2=>
  if(!r2.2)then
  (some ((0:Int),(201:Int)))
  else
  ((ko own ([r2.1])).bind fun own3=>
  nx2 own3)

def dG(kinds:(List Int)):List bD→(List Int)→Option (Int×Int)
  |[],own=>
    (dC own (IntKind.i64.wrap ((own.length:Int)-(1:Int)))).bind fun e4=>
    some (e4,(0:Int))
  |e3::tl2,own=>
    if(e3.Tag==(1:Int))then
    ((ko own ([e3.Value.Kind])).bind fun own1=>
    (dG kinds tl2) own1)
    else
    (if(e3.Tag==(2:Int))then
    ((dC kinds e3.Col).bind fun e5=>
    (ko own ([e5])).bind fun own2=>
    (dG kinds tl2) own2)
    else
    ((dC own e3.L).bind fun e6=>
    if(decide ((0:Int)≤e3.R))then
    ((dC own e3.R).bind fun e7=>
    pm (dG kinds tl2) e3 own e6 e7)
    else
    (pm (dG kinds tl2) e3 own e6 (0:Int))))

def nG(e:bp)(kinds:(List Int)):List bD→Option (Int×Int)
 |[]=>
  dG kinds e.Nodes ([]:List Int)
 |e2::tl1=>
  if((e2.Tag==(2:Int))&&(decide ((kinds.length:Int)≤e2.Col)))then
  (some ((0:Int),(2:Int)))
  else
  ((nG e kinds tl1))

def pl(e:bp)(kinds:(List Int)):List Int→Option (Int×Int)
 |[]=>
  nG e kinds e.Nodes
 |e1::tl=>
  if((decide (e1<(0:Int)))||(decide ((3:Int)<e1)))then
  (some ((0:Int),(2:Int)))
  else
  ((pl e kinds tl))

def q7(e:bp)(kinds:(List Int)):Option (Int×Int):=
 (tX e).bind fun r=>
 if(!r)then
 (some ((0:Int),(200:Int)))
 else
 (pl e kinds kinds)

def rN(e:bp)(kinds:(List Int)):Option Bool:=
 (q7 e kinds).bind fun r=>
 some ((r.2==(0:Int))&&((r.1==(0:Int))||(r.1==(1:Int))))

def lM(a1:gm)(kinds:(List Int)):Option (Int×Bool):=
  if(a1.Tag==(1:Int))then
  (some ((2:Int),((a1.Arg.Nodes.length:Int)==(0:Int))))
  else
  ((q7 a1.Arg kinds).bind fun r=>
  if(((decide (a1.Tag<(1:Int)))||(decide ((5:Int)<a1.Tag)))||(r.2 !=(0:Int)))then
  (some ((0:Int),false))
  else
  (if(((a1.Tag==(3:Int))&&(r.1 !=(2:Int)))&&(r.1 !=(0:Int)))then
  (some ((0:Int),false))
  else
  (if(decide ((4:Int)≤a1.Tag))then
  (some (r.1,true))
  else
  (some ((2:Int),true)))))

def iK(n:aw):Nat→Bool→Int→Option ((List Int)×Bool)
  |0,_,_=>none
  |n1+1,ok,i=>
    if(decide (i<(n.Kinds.length:Int)))then
    ((if ok then((dC n.Kinds i).bind fun e=>
    some (decide ((1:Int)≤e)))else some false).bind fun t=>
    (if t then((dC n.Kinds i).bind fun e1=>
    some (decide (e1≤(3:Int))))else some false).bind fun t1=>
    (iK n n1) t1 (IntKind.i64.wrap (i+(1:Int))))
    else
    (some (n.Kinds,((((ok&&(decide ((0:Int)≤n.Table)))&&(decide (n.Table≤(3:Int))))&&(decide ((1:Int)≤(n.Kinds.length:Int))))&&(decide ((n.Kinds.length:Int)≤(4:Int))))))

def lj(n:aw)(a1:(List Int)):Nat→(List Int)→Bool→Int→Option ((List Int)×Bool)
  |0,_,_,_=>none
  |n3+1,out3,ok1,i2=>
    if(decide (i2<(n.Aggs.length:Int)))then
    ((dC n.Aggs i2).bind fun e4=>
    (lM e4 a1).bind fun r2=>
    (ko out3 ([r2.1])).bind fun out4=>
    (lj n a1 n3) out4 (ok1&&r2.2) (IntKind.i64.wrap (i2+(1:Int))))
    else
    (some (out3,(((ok1&&(decide ((n.Keys.length:Int)≤(3:Int))))&&(decide ((n.Aggs.length:Int)≤(12:Int))))&&(decide ((0:Int)<(out3.length:Int))))))

def lk(n:aw)(a1:(List Int)):Nat→(List Int)→Int→Option ((List Int)×Bool)
  |0,_,_=>none
  |n2+1,out1,i1=>
    if(decide (i1<(n.Keys.length:Int)))then
    ((dC n.Keys i1).bind fun e2=>
    if((decide (e2<(0:Int)))||(decide ((a1.length:Int)≤e2)))then
    (some ([],false))
    else
    ((dC a1 e2).bind fun e3=>
    (ko out1 ([e3])).bind fun out2=>
    (lk n a1 n2) out2 (IntKind.i64.wrap (i1+(1:Int)))))
    else
    (lj n a1 gK out1 true (0:Int))

def li(n:aw)(a1:(List Int)):Nat→(List Int)→Bool→Int→Option ((List Int)×Bool)
  |0,_,_,_=>none
  |n4+1,out5,ok2,i3=>
    if(decide (i3<(n.Items.length:Int)))then
    ((dC n.Items i3).bind fun e5=>
    (q7 e5 a1).bind fun r3=>
    (ko out5 ([r3.1])).bind fun out6=>
    (li n a1 n4) out6 (ok2&&(r3.2==(0:Int))) (IntKind.i64.wrap (i3+(1:Int))))
    else
    (some (out5,((ok2&&(decide ((1:Int)≤(out5.length:Int))))&&(decide ((out5.length:Int)≤(16:Int))))))

def ox(b:(List Int))(nx4:Nat→(List Int)→Bool→Option ((List Int)×Bool))(i4:Nat)(out7:List Int)(ok3:Bool)(k:Int):Option ((List Int)×Bool):=
  (ko out7 ([k])).bind fun out8=>
  (if ok3 then((dC b (i4:Int)).bind fun e7=>
  (if(!(e7==k))then((dC b (i4:Int)).bind fun e8=>
  some (e8==(0:Int)))else some true).bind fun t3=>
  some t3)else some false).bind fun t2=>
  nx4 (i4+1) out8 t2

def iJ(b:(List Int)):List Int→Nat→(List Int)→Bool→Option ((List Int)×Bool)
  |[],i4,out7,ok3=>
    some (out7,ok3)
  |e6::tl,i4,out7,ok3=>
    if(e6==(0:Int))then
    ((dC b (i4:Int)).bind fun e9=>
    ox b (iJ b tl) i4 out7 ok3 e9)
    else
    (ox b (iJ b tl) i4 out7 ok3 e6)

def iI(n:aw)(a1:(List Int)):Nat→Bool→Int→Option ((List Int)×Bool)
  |0,_,_=>none
  |n5+1,ok4,i5=>
    if(decide (i5<(n.Order.length:Int)))then
    ((if ok4 then((dC n.Order i5).bind fun e10=>
    some (decide ((0:Int)≤e10.Col)))else some false).bind fun t4=>
    (if t4 then((dC n.Order i5).bind fun e11=>
    some (decide (e11.Col<(a1.length:Int))))else some false).bind fun t5=>
    (iI n a1 n5) t5 (IntKind.i64.wrap (i5+(1:Int))))
    else
    (some (a1,(((ok4&&(decide ((n.Order.length:Int)≤(3:Int))))&&(decide ((-1:Int)≤n.Limit)))&&(decide (n.Limit≤(2147483647:Int))))))

def cX(n:aw)(a1:(List Int))(b:(List Int)):Option ((List Int)×Bool):=
  if(n.Op==(1:Int))then
  (iK n gK true (0:Int))
  else
  (if(n.Op==(2:Int))then
  ((ko ([]:List Int) a1).bind fun l=>
  (ko l b).bind fun out=>
  (rN n.Cond out).bind fun r=>
  some (out,r))
  else
  (if(n.Op==(3:Int))then
  ((rN n.Cond a1).bind fun r1=>
  some (a1,r1))
  else
  (if(n.Op==(4:Int))then
  (lk n a1 gK ([]:List Int) (0:Int))
  else
  (if(n.Op==(5:Int))then
  (li n a1 gK ([]:List Int) true (0:Int))
  else
  (if(n.Op==(6:Int))then
  (some (a1,true))
  else
  (if(n.Op==(7:Int))then
  (if((a1.length:Int) !=(b.length:Int))then
  (some ([],false))
  else
  (iJ b a1 0 ([]:List Int) true))
  else
  (iI n a1 gK true (0:Int))))))))

def jM(l:eC)(at1:Int)(e1:aw)(a1:(List Int))(b1:(List Int)):Option ((List Int)×Bool):=
 (cX e1 a1 b1).bind fun r2=>
 if(((e1.Op==(8:Int))&&(at1 !=(IntKind.i64.wrap ((l.Nodes.length:Int)-(1:Int)))))||(decide ((16:Int)<(r2.1.length:Int))))then
 (some ([],false))
 else
 (some (r2.1,r2.2))

def ll(self__:eC→Int→Option ((List Int)×Bool))(l:eC)(at1:Int)(e1:aw)(a1:(List Int)):Option ((List Int)×Bool):=
  if(decide ((0:Int)≤e1.B))then
  ((self__ l e1.B).bind fun r3=>
  if(!r3.2)then
  (some ([],false))
  else
  (jM l at1 e1 a1 r3.1))
  else
  (jM l at1 e1 a1 ([]))

def fP:Nat→eC→Int→Option ((List Int)×Bool)
  |0,_,_=>none
  |fu+1,l,at1=>
    (ym l at1).bind fun r=>
    (if(!(r==(0:Int)))then((dC l.Nodes at1).bind fun e=>
    (oY e).bind fun r1=>
    some (!r1))else some true).bind fun t=>
    if t then
    (some ([],false))
    else
    ((dC l.Nodes at1).bind fun e1=>
    if(decide ((0:Int)≤e1.A))then
    (((fP fu) l e1.A).bind fun r4=>
    if(!r4.2)then
    (some ([],false))
    else
    (ll (fP fu) l at1 e1 r4.1))
    else
    (ll (fP fu) l at1 e1 ([])))

def mX(l:eC)(at1:Int):Option ((List Int)×Bool):=
 fP gK l at1

def lU(nx1:aw→Option ((List Int)×Bool))(p:aw)(e2:bD):Option ((List Int)×Bool):=
 (vx e2 ([])).bind fun r2=>
 (ko p.Items ([r2])).bind fun l7=>
 nx1 ({p with Items:=l7}:aw)

def dJ(nx:Nat→aw→eC→Option ((List Int)×Bool))(i:Nat)(n1:aw)(l:eC):List Int→aw→Option ((List Int)×Bool)
 |[],p=>
  (ko l.Nodes ([(⟨(1:Int),(-1:Int),(-1:Int),(0:Int),[(1:Int),(2:Int),(3:Int)],false,(⟨[]⟩:bp),[],[],[],[],(0:Int)⟩:aw),p])).bind fun l5=>
  if((i:Int)==(0:Int))then
  (nx (i+1) (aw.mk n1.Op (IntKind.i64.wrap ((l5.length:Int)-(1:Int))) n1.B n1.Table n1.Kinds n1.Left n1.Cond n1.Keys n1.Aggs n1.Items n1.Order n1.Limit) ({l with Nodes:=l5}:eC))
  else
  (nx (i+1) (aw.mk n1.Op n1.A (IntKind.i64.wrap ((l5.length:Int)-(1:Int))) n1.Table n1.Kinds n1.Left n1.Cond n1.Keys n1.Aggs n1.Items n1.Order n1.Limit) ({l with Nodes:=l5}:eC))
 |e1::tl1,p=>
  if(decide ((0:Int)<e1))then
  (lU (dJ nx i n1 l tl1) p (⟨(2:Int),(0:Int),(0:Int),(IntKind.i64.wrap (e1-(1:Int))),(⟨(0:Int),(0:Int),(0:Int),[]⟩:dQ)⟩:bD))
  else
  (lU (dJ nx i n1 l tl1) p (⟨(1:Int),(0:Int),(0:Int),(0:Int),(⟨(0:Int),(0:Int),(0:Int),[]⟩:dQ)⟩:bD))

def cd:List (List Int)→Nat→aw→eC→Option ((List Int)×Bool)
 |[],i,n1,l=>
  (ko l.Nodes ([n1])).bind fun l2=>
  (mX ({l with Nodes:=l2}:eC) (IntKind.i64.wrap ((l2.length:Int)-(1:Int)))).bind fun r=>
  some (r.1,r.2)
 |e::tl,i,n1,l=>
  (s4 e).bind fun r1=>
  if r1 then
  (some ([],false))
  else
  (dJ (cd tl) i n1 l e ({(⟨(5:Int),(l.Nodes.length:Int),(-1:Int),(0:Int),[],false,(⟨[]⟩:bp),[],[],[],[],(0:Int)⟩:aw)with Items:=([]:List bp)}:aw))

def dH(n:aw)(parts:(List (List Int))):Option ((List Int)×Bool):=
 cd parts 0 n ({(⟨[]⟩:eC)with Nodes:=([]:List aw)}:eC)

def kS(n:aw):List gm→Nat→(List Int)→Option (List Int)
  |[],i,out1=>
    some out1
  |e::tl,i,out1=>
    if(e.Tag==(3:Int))then
    ((dC out1 (IntKind.i64.wrap ((n.Keys.length:Int)+(i:Int)))).bind fun e1=>
    (some (out1.set (IntKind.i64.wrap ((n.Keys.length:Int)+(i:Int))).toNat (4:Int))).bind fun st=>
    (kS n tl) (i+1) st)
    else
    ((kS n tl) (i+1) out1)

def nC(n:aw)(kinds:(List Int)):Option (List Int):=
 (ko ([]:List Int) kinds).bind fun out=>
 kS n n.Aggs 0 out

def oo(nx1:Nat→(List Int)→Option ((List Int)×Bool))(i1:Nat)(out1:List Int)(e2:Int)(x1:Bool):Option ((List Int)×Bool):=
  if x1 then
  (if(e2==(4:Int))then
  (some ([],false))
  else
  ((ko out1 ([e2])).bind fun out4=>
  nx1 (i1+1) out4))
  else
  (some ([],false))

def oq(nx1:Nat→(List Int)→Option ((List Int)×Bool))(i1:Nat)(e1:gm)(out1:List Int)(e2:Int)(x:Bool):Option ((List Int)×Bool):=
  if x then
  (if(e2 !=(2:Int))then
  (some ([],false))
  else
  ((ko out1 ([e2])).bind fun out2=>
  nx1 (i1+1) out2))
  else
  (if(e1.Tag==(3:Int))then
  (if(e2 !=(4:Int))then
  (some ([],false))
  else
  ((ko out1 ([(2:Int)])).bind fun out3=>
  nx1 (i1+1) out3))
  else
  (if(e1.Tag==(4:Int))then
  (oo nx1 i1 out1 e2 (e1.Tag==(4:Int)))
  else
  (oo nx1 i1 out1 e2 (e1.Tag==(5:Int)))))

def fh(n:aw)(a1:(List Int)):List gm→Nat→(List Int)→Option ((List Int)×Bool)
  |[],i1,out1=>
    some (out1,true)
  |e1::tl1,i1,out1=>
    (dC a1 (IntKind.i64.wrap ((n.Keys.length:Int)+(i1:Int)))).bind fun e2=>
    if(decide ((0:Int)<(e1.Arg.Nodes.length:Int)))then
    (some ([],false))
    else
    (if(e1.Tag==(1:Int))then
    (oq (fh n a1 tl1) i1 e1 out1 e2 (e1.Tag==(1:Int)))
    else
    (oq (fh n a1 tl1) i1 e1 out1 e2 (e1.Tag==(2:Int))))

def mG(n:aw)(a1:(List Int)):List Int→Nat→(List Int)→Option ((List Int)×Bool)
  |[],i,out=>
    fh n a1 n.Aggs 0 out
  |e::tl,i,out=>
    (if(!(e !=(i:Int)))then((dC a1 (i:Int)).bind fun e3=>
    some (e3==(4:Int)))else some true).bind fun t=>
    if t then
    (some ([],false))
    else
    ((dC a1 (i:Int)).bind fun e4=>
    (ko out ([e4])).bind fun out5=>
    (mG n a1 tl) (i+1) out5)

def ot(n:aw)(a1:(List Int)):Option ((List Int)×Bool):=
 if((((decide ((3:Int)<(n.Keys.length:Int)))||(decide ((12:Int)<(n.Aggs.length:Int))))||((IntKind.i64.wrap ((n.Keys.length:Int)+(n.Aggs.length:Int))) !=(a1.length:Int)))||((a1.length:Int)==(0:Int)))then
 (some ([],false))
 else
 (mG n a1 n.Keys 0 ([]:List Int))

def dx(l:(List aw))(nx:Nat→(List (List Int))→Option ((List (List Int))×Int))(i:Nat)(e:aw)(out:List (List Int))(ok:Bool)(k:(List Int)):Option ((List (List Int))×Int):=
  if((!ok)||(((e.Op==(8:Int))||(e.Op==(10:Int)))&&((i:Int) !=(IntKind.i64.wrap ((l.length:Int)-(1:Int))))))then
  (some ([],(i:Int)))
  else
  ((ko out ([k])).bind fun out1=>
  nx (i+1) out1)

def ec(l:(List aw))(nx:Nat→(List (List Int))→Option ((List (List Int))×Int))(i:Nat)(e:aw)(out:List (List Int))(parts1:List (List Int)):Option ((List (List Int))×Int):=
  if(e.Op==(9:Int))then
  ((tR e).bind fun r3=>
  dx l nx i e out r3.2 r3.1)
  else
  (if(e.Op==(10:Int))then
  ((dH (aw.mk (4:Int) e.A e.B e.Table e.Kinds e.Left e.Cond e.Keys e.Aggs e.Items e.Order e.Limit) parts1).bind fun r4=>
  if r4.2 then
  ((nC e r4.1).bind fun r5=>
  dx l nx i e out r4.2 r5)
  else
  (dx l nx i e out r4.2 r4.1))
  else
  (if(e.Op==(11:Int))then
  ((dC parts1 (0:Int)).bind fun e1=>
  (ot e e1).bind fun r6=>
  (if r6.2 then((dC l e.A).bind fun e2=>
  some (e2.Op==(9:Int)))else some false).bind fun t1=>
  dx l nx i e out t1 r6.1)
  else
  (if(e.Op==(1:Int))then
  ((dH e ([])).bind fun r7=>
  dx l nx i e out r7.2 r7.1)
  else
  ((dH e parts1).bind fun r8=>
  dx l nx i e out r8.2 r8.1))))

def ov(l:(List aw))(nx:Nat→(List (List Int))→Option ((List (List Int))×Int))(i:Nat)(e:aw)(out:List (List Int))(parts:List (List Int)):Option ((List (List Int))×Int):=
  if(decide ((0:Int)≤e.B))then
  ((dC out e.B).bind fun e3=>
  (ko parts ([e3])).bind fun parts2=>
  ec l nx i e out parts2)
  else
  (ec l nx i e out parts)

def cW(l:(List aw)):List aw→Nat→(List (List Int))→Option ((List (List Int))×Int)
  |[],i,out=>
    (s5 l (IntKind.i64.wrap ((l.length:Int)-(1:Int)))).bind fun r=>
    if(r !=(l.length:Int))then
    (some ([],(IntKind.i64.wrap ((l.length:Int)-(1:Int)))))
    else
    (some (out,(-1:Int)))
  |e::tl,i,out=>
    (s5 l (i:Int)).bind fun r1=>
    (if(decide ((0:Int)<r1))then((oX e).bind fun r2=>
    some r2)else some false).bind fun t=>
    if t then
    (if(decide ((0:Int)≤e.A))then
    ((dC out e.A).bind fun e4=>
    (ko ([]:List (List Int)) ([e4])).bind fun parts3=>
    ov l (cW l tl) i e out parts3)
    else
    (ov l (cW l tl) i e out ([]:List (List Int))))
    else
    (dx l (cW l tl) i e out t ([]))

def kN(l:(List aw)):Option ((List (List Int))×Int):=
 if((decide ((l.length:Int)<(1:Int)))||(decide ((60:Int)<(l.length:Int))))then
 (some ([],(0:Int)))
 else
 (cW l l 0 ([]:List (List Int)))

def j4(b:(List Int)):List Int→Nat→Option Bool
 |[],i=>
  some true
 |e::tl,i=>
  (dC b (i:Int)).bind fun e1=>
  if(e !=e1)then
  (some false)
  else
  ((j4 b tl) (i+1))

def g9(a1:(List Int))(b:(List Int)):Option Bool:=
 if((a1.length:Int) !=(b.length:Int))then
 (some false)
 else
 (j4 b a1 0)

def ro(nx1:Option Int):Option Int:=
 nx1

def nD(nx1:Option Int)(e2:aw):List bL→(List Int)→Option Int
 |[],own=>
  (g9 own e2.Kinds).bind fun r1=>
  if(!r1)then
  (some (0:Int))
  else
  (ro nx1)
 |e4::tl2,own=>
  (ko own ([e4.Kind])).bind fun own1=>
  (nD nx1 e2 tl2) own1

def jC(f:cL)(c:bG):List aw→Option Int
  |[]=>
    some (-1:Int)
  |e2::tl1=>
    if(e2.Op !=(1:Int))then
    (ro (jC f c tl1))
    else
    (if((f.At !=(1:Int))||(decide ((c.Tables.length:Int)≤e2.Table)))then
    (some (0:Int))
    else
    ((dC c.Tables e2.Table).bind fun e3=>
    nD (jC f c tl1) e2 e3.Columns ([]:List Int)))

def nE(f:cL)(c:bG)(e:(List Int)):List Int→Option Int
  |[]=>
    jC f c f.Nodes
  |e1::tl=>
    (if(!((decide (e1<(0:Int)))||(decide ((e.length:Int)≤e1))))then((dC e e1).bind fun e5=>
    some (e5==(4:Int)))else some true).bind fun t=>
    if t then
    (some (0:Int))
    else
    ((nE f c e tl))

def s6(f:cL)(c:bG):Option Int:=
  (kN f.Nodes).bind fun r=>
  if(decide ((0:Int)≤r.2))then
  (some r.2)
  else
  (if((((((f.At !=(1:Int))&&(f.At !=(2:Int)))||(decide (f.Way<(1:Int))))||(decide ((4:Int)<f.Way)))||((f.Way==(1:Int)) !=(decide ((0:Int)<(f.Cols.length:Int)))))||(decide ((16:Int)<(f.Cols.length:Int))))then
  (some (0:Int))
  else
  ((dC r.1 (IntKind.i64.wrap ((r.1.length:Int)-(1:Int)))).bind fun e=>
  nE f c e f.Cols))

def nA(from1:Int)(nx:Nat→Option (Int×Int×Bool))(i:Nat):List aw→Nat→Option (Int×Int×Bool)
 |[],i1=>
  nx (i+1)
 |e1::tl1,i1=>
  if((e1.Op==(9:Int))&&(e1.Table==from1))then
  (some ((i:Int),(i1:Int),true))
  else
  ((nA from1 nx i tl1) (i1+1))

def lL(from1:Int):List cL→Nat→Option (Int×Int×Bool)
 |[],i=>
  some ((0:Int),(0:Int),false)
 |e::tl,i=>
  nA from1 (lL from1 tl) i e.Nodes 0

def m9(p:da)(from1:Int):Option (Int×Int×Bool):=
 lL from1 p.Frags 0

def q5(f:cL):Option (List Int):=
 (kN f.Nodes).bind fun r=>
 (dC r.1 (IntKind.i64.wrap ((r.1.length:Int)-(1:Int)))).bind fun e=>
 some e

def mD(at1:Int)(nx1:Int→Option Bool):List aw→Int→Option Bool
 |[],many1=>
  nx1 many1
 |e4::tl2,many1=>
  if((e4.Op==(9:Int))&&(e4.Table==at1))then
  ((mD at1 nx1 tl2) (IntKind.i64.wrap (many1+(1:Int))))
  else
  ((mD at1 nx1 tl2) many1)

def jK(p:da)(at1:Int)(e:cL):List cL→Int→Option Bool
  |[],many=>
    if(at1==(IntKind.i64.wrap ((p.Frags.length:Int)-(1:Int))))then
    ((if(((e.Way==(4:Int))&&(e.At==(2:Int)))&&(many==(0:Int)))then((q5 e).bind fun r=>
    (s4 r).bind fun r1=>
    some (!r1))else some false).bind fun t=>
    some t)
    else
    ((m9 p at1).bind fun r2=>
    (if(((e.Way !=(4:Int))&&(many==(1:Int)))&&r2.2.2)then((dC p.Frags r2.1).bind fun e3=>
    some ((e.Way==(3:Int))==(e3.At==(2:Int))))else some false).bind fun t1=>
    some t1)
  |e2::tl1,many=>
    mD at1 (jK p at1 e tl1) e2.Nodes many

def mE(p:da)(at1:Int)(e:cL):List aw→Option Bool
  |[]=>
    jK p at1 e p.Frags (0:Int)
  |e1::tl=>
    (if(e1.Op==(9:Int))then((if(!(decide (at1≤e1.Table)))then((dC p.Frags e1.Table).bind fun e5=>
    (q5 e5).bind fun r3=>
    (g9 e1.Kinds r3).bind fun r4=>
    some (!r4))else some true).bind fun t3=>
    some t3)else some false).bind fun t2=>
    if t2 then
    (some false)
    else
    ((mE p at1 e tl))

def tQ(p:da)(at1:Int):Option Bool:=
 (dC p.Frags at1).bind fun e=>
 mE p at1 e e.Nodes

def ow(p:da):List cL→Nat→Option (Int×Int×Int)
 |[],i1=>
  some ((0:Int),(0:Int),(0:Int))
 |e1::tl1,i1=>
  (tQ p (i1:Int)).bind fun r1=>
  if(!r1)then
  (some ((i1:Int),(0:Int),(290:Int)))
  else
  ((ow p tl1) (i1+1))

def lh(p:da)(c:bG):List cL→Nat→Option (Int×Int×Int)
 |[],i=>
  ow p p.Frags 0
 |e::tl,i=>
  (s6 e c).bind fun r2=>
  if(decide ((0:Int)≤r2))then
  (some ((i:Int),r2,(291:Int)))
  else
  ((lh p c tl) (i+1))

def tU(p:da)(c:bG):Option (Int×Int×Int):=
  (tW c).bind fun r=>
  if(!r)then
  (some ((0:Int),(0:Int),(210:Int)))
  else
  (if((decide ((p.Frags.length:Int)<(1:Int)))||(decide ((30:Int)<(p.Frags.length:Int))))then
  (some ((0:Int),(0:Int),(290:Int)))
  else
  (lh p c p.Frags 0))

def ld(b:(List aS)):List aS→Nat→Option Bool
  |[],i=>
    some true
  |e::tl,i=>
    (dC b (i:Int)).bind fun e1=>
    (if(!(e.Kind !=e1.Kind))then((g9 e.Cols e1.Cols).bind fun r=>
    some (!r))else some true).bind fun t=>
    if t then
    (some false)
    else
    ((ld b tl) (i+1))

def pu(a1:(List aS))(b:(List aS)):Option Bool:=
 if((a1.length:Int) !=(b.length:Int))then
 (some false)
 else
 (ld b a1 0)

def qm(col:Int):List Int→Nat→Option Int
 |[],i=>
  some (-1:Int)
 |e::tl,i=>
  if(e==col)then
  (some (i:Int))
  else
  ((qm col tl) (i+1))

def sM(keys:(List Int))(col:Int):Option Int:=
 qm col keys 0

def om(col:Int):List bp→Nat→Option Int
  |[],i=>
    some (-1:Int)
  |e::tl,i=>
    (if((e.Nodes.length:Int)==(1:Int))then((dC e.Nodes (0:Int)).bind fun e1=>
    some (e1.Tag==(2:Int)))else some false).bind fun t=>
    (if t then((dC e.Nodes (0:Int)).bind fun e2=>
    some (e2.Col==col))else some false).bind fun t1=>
    if t1 then
    (some (i:Int))
    else
    ((om col tl) (i+1))

def rL(items:(List bp))(col:Int):Option Int:=
 om col items 0

def ol(nx:aS→aS→Option aS)(x:aS)(out:aS)(at1:Int):Option aS:=
  if(decide (at1<(0:Int)))then
  (some (⟨(1:Int),[]⟩:aS))
  else
  ((ko out.Cols ([at1])).bind fun l1=>
  nx x ({out with Cols:=l1}:aS))

def iH(n:aw):List Int→aS→aS→Option aS
  |[],x,out=>
    some out
  |e::tl,x,out=>
    (sM n.Keys e).bind fun r=>
    if(n.Op==(5:Int))then
    ((rL n.Items e).bind fun r1=>
    ol (iH n tl) x out r1)
    else
    (ol (iH n tl) x out r)

def pT(n:aw)(p:aS):Option aS:=
 if(p.Kind !=(2:Int))then
 (some p)
 else
 (iH n p.Cols (⟨(0:Int),[]⟩:aS) ({(⟨(2:Int),[]⟩:aS)with Cols:=([]:List Int)}:aS))

def ou(nx:(List aS)→Option (List aS))(out:List aS)(x:aS):Option (List aS):=
 (ko out ([x])).bind fun out1=>
 nx out1

def qu(nx:(List aS)→Option (List aS))(out:List aS)(x1:aS):Option (List aS):=
 (ko out ([x1])).bind fun out2=>
 nx out2

def qt(nx:(List aS)→Option (List aS))(out:List aS)(x2:aS):Option (List aS):=
 (ko out ([x2])).bind fun out3=>
 nx out3

def qr(nx:(List aS)→Option (List aS))(out:List aS)(x3:aS):Option (List aS):=
 (ko out ([x3])).bind fun out4=>
 nx out4

def qq(nx:(List aS)→Option (List aS))(out:List aS)(x4:aS):Option (List aS):=
 (ko out ([x4])).bind fun out5=>
 nx out5

def qp(nx:(List aS)→Option (List aS))(out:List aS)(x5:aS):Option (List aS):=
 (ko out ([x5])).bind fun out6=>
 nx out6

def qo(nx:(List aS)→Option (List aS))(out:List aS)(x7:aS):Option (List aS):=
 (ko out ([x7])).bind fun out7=>
 nx out7

def qn(nx:(List aS)→Option (List aS))(out:List aS)(x8:aS):Option (List aS):=
 (ko out ([x8])).bind fun out8=>
 nx out8

def lg(e:cL)(nx:(List aS)→Option (List aS))(e1:aw)(out:List aS)(x6:Bool):Option (List aS):=
  if x6 then
  ((dC out e1.A).bind fun e6=>
  (pT e1 e6).bind fun r1=>
  if(e.At==(2:Int))then
  (qo nx out (⟨(4:Int),[]⟩:aS))
  else
  (qo nx out r1))
  else
  ((dC out e1.A).bind fun e7=>
  if(e.At==(2:Int))then
  (qn nx out (⟨(4:Int),[]⟩:aS))
  else
  (qn nx out e7))

def bv(p:da)(c:bG)(e:cL):List aw→(List aS)→Option (List aS)
  |[],out=>
    some out
  |e1::tl,out=>
    if(e1.Op==(1:Int))then
    ((dC c.Tables e1.Table).bind fun e2=>
    if(decide ((0:Int)<(e2.Keys.length:Int)))then
    (if(e.At==(2:Int))then
    (ou (bv p c e tl) out (⟨(4:Int),[]⟩:aS))
    else
    (ou (bv p c e tl) out (⟨(2:Int),e2.Keys⟩:aS)))
    else
    (if(e.At==(2:Int))then
    (qu (bv p c e tl) out (⟨(4:Int),[]⟩:aS))
    else
    (qu (bv p c e tl) out (⟨(1:Int),[]⟩:aS))))
    else
    (if(e1.Op==(9:Int))then
    ((dC p.Frags e1.Table).bind fun e3=>
    if(e3.Way==(1:Int))then
    (if(e.At==(2:Int))then
    (qt (bv p c e tl) out (⟨(4:Int),[]⟩:aS))
    else
    (qt (bv p c e tl) out (⟨(2:Int),e3.Cols⟩:aS)))
    else
    (if(e.At==(2:Int))then
    (qr (bv p c e tl) out (⟨(4:Int),[]⟩:aS))
    else
    (qr (bv p c e tl) out (⟨(3:Int),[]⟩:aS))))
    else
    (if(e1.Op==(7:Int))then
    ((dC out e1.A).bind fun e4=>
    (dC out e1.B).bind fun e5=>
    (if((e4.Kind==(2:Int))&&(e5.Kind==(2:Int)))then((g9 e4.Cols e5.Cols).bind fun r=>
    some r)else some false).bind fun t=>
    if t then
    (if(e.At==(2:Int))then
    (qq (bv p c e tl) out (⟨(4:Int),[]⟩:aS))
    else
    (qq (bv p c e tl) out e4))
    else
    (if(e.At==(2:Int))then
    (qp (bv p c e tl) out (⟨(4:Int),[]⟩:aS))
    else
    (qp (bv p c e tl) out (⟨(1:Int),[]⟩:aS))))
    else
    (if(e1.Op==(5:Int))then
    (lg e (bv p c e tl) e1 out (e1.Op==(5:Int)))
    else
    (if(e1.Op==(4:Int))then
    (lg e (bv p c e tl) e1 out (e1.Op==(4:Int)))
    else
    (if(e1.Op==(10:Int))then
    (lg e (bv p c e tl) e1 out (e1.Op==(10:Int)))
    else
    (lg e (bv p c e tl) e1 out (e1.Op==(11:Int))))))))

def rM(p:da)(c:bG)(frag:Int):Option (List aS):=
 (dC p.Frags frag).bind fun e=>
 bv p c e e.Nodes ([]:List aS)

def vA(p:da):Option ((List Int)×Int):=
  if((p.Frags.length:Int)==(0:Int))then
  (some ([],(290:Int)))
  else
  ((dC p.Frags (IntKind.i64.wrap ((p.Frags.length:Int)-(1:Int)))).bind fun e=>
  (oC e.Nodes).bind fun r=>
  if(r.2.2 !=(0:Int))then
  (some ([],r.2.2))
  else
  ((dC r.1 (IntKind.i64.wrap ((r.1.length:Int)-(1:Int)))).bind fun e1=>
  some (e1,(0:Int))))

def lv(r2:da):Option Bool:=
  (vA r2).bind fun r4=>
  if((r2.Frags.length:Int)==(0:Int))then
  (some ((r4.2==(290:Int))&&((r4.1.length:Int)==(0:Int))))
  else
  ((dC r2.Frags (IntKind.i64.wrap ((r2.Frags.length:Int)-(1:Int)))).bind fun e=>
  (kN e.Nodes).bind fun r5=>
  if(decide ((0:Int)≤r5.2))then
  (some ((r4.2==(291:Int))&&((r4.1.length:Int)==(0:Int))))
  else
  ((if(r4.2==(0:Int))then((dC r5.1 (IntKind.i64.wrap ((r5.1.length:Int)-(1:Int)))).bind fun e1=>
  (g9 r4.1 e1).bind fun r6=>
  some r6)else some false).bind fun t=>
  some t))

def gv(r1:bG)(r2:da)(r3:Int×Int×Int):List Int→Nat→Option Bool
  |[],i=>
    lv r2
  |e2::tl,i=>
    if((i:Int)==(12:Int))then
    (lv r2)
    else
    ((ml r2 r1 e2).bind fun r7=>
    if(r3.2.2 !=(0:Int))then
    (if((r7.2 !=r3.2.2)||((r7.1.length:Int) !=(0:Int)))then
    (some false)
    else
    ((kP r2 e2).bind fun r8=>
    (m9 r2 e2).bind fun r9=>
    if(((r8.1 !=r9.1)||(r8.2.1 !=r9.2.1))||(r8.2.2 !=r9.2.2))then
    (some false)
    else
    ((gv r1 r2 r3 tl) (i+1))))
    else
    (if((decide (e2<(0:Int)))||(decide ((r2.Frags.length:Int)≤e2)))then
    (if((r7.2 !=(2:Int))||((r7.1.length:Int) !=(0:Int)))then
    (some false)
    else
    ((kP r2 e2).bind fun r10=>
    (m9 r2 e2).bind fun r11=>
    if(((r10.1 !=r11.1)||(r10.2.1 !=r11.2.1))||(r10.2.2 !=r11.2.2))then
    (some false)
    else
    ((gv r1 r2 r3 tl) (i+1))))
    else
    ((if(!(r7.2 !=(0:Int)))then((rM r2 r1 e2).bind fun r12=>
    (pu r7.1 r12).bind fun r13=>
    some (!r13))else some true).bind fun t1=>
    if t1 then
    (some false)
    else
    ((kP r2 e2).bind fun r14=>
    (m9 r2 e2).bind fun r15=>
    if(((r14.1 !=r15.1)||(r14.2.1 !=r15.2.1))||(r14.2.2 !=r15.2.2))then
    (some false)
    else
    ((gv r1 r2 r3 tl) (i+1))))))

def sj(p:bG)(y:da)(numbers:(List Int)):Option Bool:=
  (wK).bind fun r=>
  if(!r)then
  (some false)
  else
  ((ub p).bind fun r1=>
  (xk y).bind fun r2=>
  (tU r2 r1).bind fun r3=>
  gv r1 r2 r3 numbers 0)

end Go.Proofs.YtmogpgcfognefaaGreatDoor

