import Derived.Test.YtbmmihfagmchaaaGreatRaQ1
/- db of this claim: E1. -/
set_option linter.all false
namespace Go.Proofs.YtbmmihfagmchaaaGreat
open Go

def DW:pH=some true:=by kernel_rfl
def uf(xs:List aj): ∀(tl:List aj) (i:Nat),xs.drop i=tl->gY tl i ⟨(xs.take i).map BD++xs.drop i⟩=some ⟨xs.map BD⟩
 |[],i,h=>by
  have:=wy.1 h
  simp only [gY]
  rw [h,vg,kC this]
 |e::tl,i,h=>by
  have hi:i<xs.length:=by
   rcases iH i xs.length with k|k
   ·exact k
   ·rw [wz k]at h;cases h
  simp only [gY]
  rw [tF BD xs i hi]
  simp only [fM,Bh,tK]
  have hs:=tw BD xs i hi
  have hd:xs.drop (i+1)=tl:=by rw [<-lW,h];rfl
  rw [show({xs[i]with Value:={xs[i].Value with S:=ES xs[i].Value.S}}:aj)=BD xs[i]from rfl,hs]
  exact uf xs tl (i+1) hd
def zn(e:af):nD e=some ⟨zm e.Nodes 60⟩:=by
 unfold nD jR
 rw [show(60:Int)=((60:Nat):Int)from rfl,Gu _ 60 (by omega)]
 simp only [fM]
 exact uf (e.Nodes.take 60) _ 0 rfl
def Df(e:af){t:Tr}(D:jL e.Nodes=some t): ∃cs,lz e=some cs/\jj e=some cs/\cs.Pairwise (· < ·)/\(∀c∈cs,0<=c/\c<16)/\cs.length<=16/\ ∀n∈e.Nodes,n.Tag=2->n.Col∈cs:=by
 obtain⟨cs,Y,H⟩:=BE e D
 obtain⟨hw,hN,hs⟩:=km D
 have h3:=H
 unfold jj at h3
 rw [uy e 16 0 [] (by simp),nQ]at h3
 cases h3
 have hlt:=(zh e.Nodes 16 0).1
 have hr: ∀c∈An e.Nodes 16 0,0<=c/\c<16:=fun c hc=>by
  obtain⟨j,h4,h5,h6,_⟩:=(tE _ _ _ _).1 hc
  omega
 refine⟨_,Y,H,hlt,hr,?_,fun n hn htag=>?_⟩
 ·have key: ∀(k i:Nat),(An e.Nodes k i).length<=k:=by
   intro k
   induction k with
   |zero=>intro i;simp [An]
   |succ k ih=>intro i;simp only [An,hT];have:=ih (i+1);split<;>simp<;>omega
  exact key 16 0
 ·have V:=xP hw 0 (by rw [<-hN];exact hn) htag
  refine(tE _ _ _ _).2 ⟨n.Col.toNat,by omega,by omega,by omega,?_⟩
  unfold yA
  exact q7.2 ⟨n,hn,by simp [htag];omega⟩
def tB(b:Int)(n:aj):aj:=if n.Tag=2 then{n with Col:=IntKind.i64.wrap (n.Col+b)}else n
def zI(b:Int)(x:af)(xs:List aj)(I: ∀n∈xs,n.Tag=2->0<=n.Col/\n.Col<16/\0<=n.Col+b/\n.Col+b<16)(V: -16<=b/\b<=16): ∀(tl:List aj) (i:Nat),xs.drop i=tl->fL b tl i x ⟨(xs.take i).map (tB b)++xs.drop i⟩=some (⟨xs.map (tB b)⟩,0)
 |[],i,h=>by
  have:=wy.1 h
  simp only [fL]
  rw [h,vg,kC this]
 |e::tl,i,h=>by
  have hi:i<xs.length:=by
   rcases iH i xs.length with k|k
   ·exact k
   ·rw [wz k]at h;cases h
  have hs:=tw (tB b) xs i hi
  have hd:xs.drop (i+1)=tl:=by rw [<-lW,h];rfl
  have hn:=I xs[i] (List.getElem_mem hi)
  unfold fL
  rw [tF (tB b) xs i hi]
  simp only [fM,tK,lI]
  by_cases D:xs[i].Tag=2
  ·obtain⟨a1,a2,a3,a4⟩:=hn D
   rw [ei (by simp [D]),em (by omega) (by omega),em (n:=16-xs[i].Col) (by omega) (by omega),ei (by simp;omega)]
   rw [show({xs[i]with Col:=IntKind.i64.wrap (xs[i].Col+b)}:aj)=tB b xs[i]from by unfold tB;rw [eF D],hs]
   exact zI b x xs I V tl (i+1) hd
  ·rw [eF (by simp [D])]
   have e1:xs[i]=tB b xs[i]:=by unfold tB;rw [ei D]
   have e2:(xs.take i).map (tB b)++xs.drop i=(xs.take (i+1)).map (tB b)++xs.drop (i+1):=by
    rw [r0 hi,A3 hi,y8]
    simp [<-e1]
   rw [e2]
   exact zI b x xs I V tl (i+1) hd
def zJ(b:Int)(xs:List aj): ∀(tl:List aj) (i:Nat),xs.drop i=tl->fU b tl i ⟨(xs.take i).map (tB b)++xs.drop i⟩=some (⟨xs.map (tB b)⟩,0)
 |[],i,h=>by
  have:=wy.1 h
  simp only [fU]
  rw [h,vg,kC this]
 |e::tl,i,h=>by
  have hi:i<xs.length:=by
   rcases iH i xs.length with k|k
   ·exact k
   ·rw [wz k]at h;cases h
  have hs:=tw (tB b) xs i hi
  have hd:xs.drop (i+1)=tl:=by rw [<-lW,h];rfl
  unfold fU
  rw [tF (tB b) xs i hi]
  simp only [fM,tK]
  by_cases D:xs[i].Tag=2
  ·rw [eF (by simp [D])]
   rw [show({xs[i]with Col:=IntKind.i64.wrap (xs[i].Col+b)}:aj)=tB b xs[i]from by unfold tB;rw [eF D],hs]
   exact zJ b xs tl (i+1) hd
  ·rw [ei (by simp [D])]
   have e1:xs[i]=tB b xs[i]:=by unfold tB;rw [ei D]
   have e2:(xs.take i).map (tB b)++xs.drop i=(xs.take (i+1)).map (tB b)++xs.drop (i+1):=by
    rw [r0 hi,A3 hi,y8]
    simp [<-e1]
   rw [e2]
   exact zJ b xs tl (i+1) hd
def CE(e:af)(b:Int)(hl:e.Nodes.length<=1000000)(V: -16<=b/\b<=16): ∀(cs:List Int),(∀c∈cs,0<=c/\c<16/\0<=c+b/\c+b<16)-> ∀x,gW e b cs x=some (⟨e.Nodes.map (tB b)⟩,0)
 |[],_,x=>by
  simp only [gW,oH]
  rw [iR (by simp;omega)]
  simp only [fM,nQ]
  exact zJ b e.Nodes _ 0 rfl
 |c::cs,h,x=>by
  simp only [gW]
  obtain⟨Y,H,h3,h4⟩:=h c (k5 ..)
  rw [em (by omega) (by omega),ei (by simp;omega)]
  exact CE e b hl V cs (fun d hd=>h d (nf _ hd)) x
def zp(e:af){t:Tr}(D:jL e.Nodes=some t){cs:List Int}(hc:jj e=some cs)(hm: ∀n∈e.Nodes,n.Tag=2->n.Col∈cs)(b:Int)(V: -16<=b/\b<=16)(h: ∀c∈cs,0<=c/\c<16/\0<=c+b/\c+b<16):
  oW e b=some (⟨e.Nodes.map (tB b)⟩,0)/\nu e b=some (⟨e.Nodes.map (tB b)⟩,0):=by
 have hr:lh e.Nodes=true:=by unfold lh;rw [D];rfl
 have hl:=uv hr
 refine⟨?_,?_⟩
 ·unfold oW
  rw [j7 e (by omega),hr]
  simp only [ni,fM]
  rw [ei (by decide),uY _ (by omega)]
  simp only [fM]
  exact zI b _ e.Nodes (fun n hn htag=>h _ (hm n hn htag)) V _ 0 rfl
 ·unfold nu
  rw [hc]
  exact CE e b (by omega) V cs h _
def xX(left:Int)(outer:Bool)(nx:List (List af)->Option (List af×List af×List af))(e:af)(to1:List (List af)): ∀(cs:List Int) (a b:Bool),fb left outer nx e to1 cs a b=fb left outer nx e to1 [] (a&&cs.all fun c=>decide (c<left)) (b&&cs.all fun c=>decide (left<=c))
 |[],a,b=>by simp
 |c::cs,a,b=>by
  rw [show fb left outer nx e to1 (c::cs) a b=fb left outer nx e to1 cs (a&&decide (c<left)) (b&&decide (left<=c))from rfl,xX left outer nx e to1 cs,List.all_cons,List.all_cons,Bool.and_assoc,Bool.and_assoc]
def D8{cs:List Int}(h:cs.Pairwise (· < ·))(left:Int)(hl:cs.length<=16):(if(!((cs.length:Int)==(0:Int)))then((eG cs (IntKind.i64.wrap ((cs.length:Int)-(1:Int)))).bind fun e1=>some (decide (e1<left)))else some true)=some (cs.all fun c=>decide (c<left)):=by
 rcases List.eq_nil_or_concat cs with rfl|⟨ys,y,rfl⟩
 ·rfl
 ·rw [List.concat_eq_append]at h hl ⊢
  have e:((ys++[y]).length:Int)-1=(ys.length:Int):=by simp
  rw [eF (by simp;omega),e,em (by omega) (by simp at hl;omega),iW]
  simp only [List.getElem?_concat_length,fM,List.all_append,List.all_cons,List.all_nil,Bool.and_true]
  congr 1
  by_cases hy:y<left
  ·have:(ys.all fun c=>decide (c<left))=true:=kz.2 fun c hc=>by
    have:=(List.pairwise_append.1 h).2.2 c hc y (qf.2 rfl)
    exact decide_eq_true (by omega)
   rw [this];simp
  ·simp [hy]
def CL{c:Int}{cs:List Int}(h:(c::cs).Pairwise (· < ·))(left:Int):((c::cs).all fun c=>decide (left<=c))=decide (left<=c):=by
 by_cases hy:left<=c
 ·have:(cs.all fun c=>decide (left<=c))=true:=kz.2 fun d hd=>by
   have:=(vh.1 h).1 d hd
   exact decide_eq_true (by omega)
  rw [List.all_cons,this];simp
 ·simp [hy]
def ue(left:Int)(hleft:0<=left/\left<=16)(outer:Bool): ∀(l:List af) (a b c:List af),(∀e∈l,∃t,jL e.Nodes=some t)->a.length+b.length+c.length+l.length<=100000->
  ∃p q r,eN left outer l [a,b,c]=some [p,q,r]/\gV left outer l [a,b,c]=some (p,q,r)/\p.length+q.length+r.length=a.length+b.length+c.length+l.length
 |[],a,b,c,_,_=>⟨a,b,c,rfl,rfl,by simp⟩
 |e::l,a,b,c,h,hn=>by
  obtain⟨t,D⟩:=h e (k5 ..)
  have ih:=fun a b c=>ue left hleft outer l a b c (fun x I=>h x (nf _ I))
  obtain⟨cs,Y,H,h3,h4,h5,h6⟩:=Df e D
  simp only [oc]at hn
  have e0:d9 [a,b,c] 0=a:=rfl
  have e1:d9 [a,b,c] 1=b:=rfl
  have e2:d9 [a,b,c] 2=c:=rfl
  unfold eN gV
  rw [Y,H]
  simp only [fM]
  rw [xX,tQ,tQ,D8 h3 left h5]
  simp only [fM,e0,e1,e2,fb]
  cases hall:cs.all fun c=>decide (c<left)with
  |true=>
   simp only [ni]
   rw [iR (by simp;omega)]
   simp only [fM]
   obtain⟨p,q,r,g1,g2,g3⟩:=ih (a++[e]) b c (by simp;omega)
   exact⟨p,q,r,g1,g2,by rw [g3];simp;omega⟩
  |false=>
   simp only [rZ,ov]
   match cs,H,h3,h4,h6,hall with
   |[],_,_,_,_,hall=>simp at hall
   |c0::cs,H,h3,h4,h6,hall=>
    rw [CL h3 left,show eG (c0::cs) 0=some c0 from rfl]
    simp only [fM]
    cases hh:decide (left<=c0)&& !outer with
    |true=>
     simp only [ni]
     have hc0:left<=c0:=by
      have:=(kA _ _▸hh).1
      exact of_decide_eq_true this
     rw [em (by omega) (by omega)]
     obtain⟨s1,s2⟩:=zp e D H h6 (0-left) (by omega) (fun d hd=>by
      have k1:=h4 d hd
      have k2:left<=d:=by
       rcases eV.1 hd with rfl|hd
       ·exact hc0
       ·have:=(vh.1 h3).1 d hd;omega
      omega)
     rw [s1,s2]
     simp only [fM]
     rw [iR (by simp;omega)]
     simp only [fM]
     obtain⟨p,q,r,g1,g2,g3⟩:=ih a (b++[⟨e.Nodes.map (tB (0-left))⟩]) c (by simp;omega)
     exact⟨p,q,r,g1,g2,by rw [g3];simp;omega⟩
    |false=>
     simp only [rZ,ov]
     rw [iR (by simp;omega)]
     simp only [fM]
     obtain⟨p,q,r,g1,g2,g3⟩:=ih a b (c++[e]) (by simp;omega)
     exact⟨p,q,r,g1,g2,by rw [g3];simp;omega⟩
def EZ{t:Tr}:t.wf-> ∀u∈kS t,u.wf/\u.size<=t.size:=by
 induction t with
 |lf n=>intro hw u hu;simp only [kS,qf]at hu;subst hu;exact⟨hw,iZ _⟩
 |un n a _=>intro hw u hu;simp only [kS,qf]at hu;subst hu;exact⟨hw,iZ _⟩
 |bi n a b iha ihb=>
  intro hw u hu
  rw [oo]at hu
  split at hu
  ·rcases te.1 hu with k|k
   ·have:=iha hw.2.1 u k;exact⟨this.1,by simp only [Tr.size];omega⟩
   ·have:=ihb hw.2.2 u k;exact⟨this.1,by simp only [Tr.size];omega⟩
  ·simp only [qf]at hu;subst hu;exact⟨hw,iZ _⟩
def xW(ns:List aj)(hl:ns.length<=60)(hr:lh ns=true)(left:Int)(hleft:0<=left/\left<=16)(outer:Bool): ∃p q r,fJ ⟨ns⟩ left outer=some (p,q,r,0)/\nt ⟨ns⟩ left outer=some (p,q,r):=by
 obtain⟨t,D⟩: ∃t,jL ns=some t:=by unfold lh at hr;exact Option.isSome_iff_exists.1 hr
 obtain⟨hw,hN,hs⟩:=km D
 have I:(⟨ns⟩:af)=tq t:=by unfold tq;rw [<-hN]
 have hA:oI ⟨ns⟩=some ((kS t).map tq):=by rw [I];exact vt hw hs
 have hz:=qd t
 obtain⟨p,q,r,Y,H,_⟩:=ue left hleft outer ((kS t).map tq) [] [] [] (fun e he=>by
  obtain⟨u,hu,rfl⟩:=List.mem_map.1 he
  have:=EZ hw u hu
  exact⟨u,sP this.1 (by omega)⟩) (by simp;omega)
 refine⟨p,q,r,?_,?_⟩
 ·unfold fJ lD
  rw [j7 _ (by show ns.length<=100000;omega),xh _ (by show ns.length<=80000;omega)]
  simp only [hr,ni,fM,D]
  rw [ei (by decide),ei (by simp;omega),Y]
  rfl
 ·unfold nt
  rw [hA]
  exact H
def Aq(ns:List aj)(hl:ns.length<=60)(outer:Bool)(nx:Nat->Option Bool)(i:Nat)(hnx:nx (i+1)=some true): ∀(ls:List Int) (j:Nat),dw outer nx i ⟨ns⟩ ls j=some true
 |[],j=>hnx
 |left::ls,j=>by
  have ih:=Aq ns hl outer nx i hnx ls (j+1)
  unfold dw
  by_cases h6:j=6
  ·rw [eF (by simp [h6])];exact hnx
  ·rw [ei (by simp;omega),uw]
   cases hr:lh ns with
   |false=>
    have Y:fJ ⟨ns⟩ left outer=some ([],[],[],200):=by
     unfold fJ
     rw [j7 _ (by show ns.length<=100000;omega)]
     simp [hr]
    rw [Y]
    simp only [fM,Bool.not_false,ni]
    rw [ei (by decide)]
    exact ih
   |true=>
    by_cases V:left<0\/16<left
    ·have Y:fJ ⟨ns⟩ left outer=some ([],[],[],2):=by
      unfold fJ
      rw [j7 _ (by show ns.length<=100000;omega)]
      simp only [hr,ni,fM]
      rw [ei (by decide),eF (by simpa using V)]
     rw [Y]
     simp only [fM,po,rZ,ov]
     rw [eF (by simpa using V),ei (by decide)]
     exact ih
    ·obtain⟨p,q,r,Y,H⟩:=xW ns hl hr left (by omega) outer
     rw [Y]
     simp only [fM,po,rZ,ov]
     rw [ei (by simpa using V),H]
     simp only [fM,wJ]
     exact ih
def ud(lefts:List Int)(outer:Bool): ∀(l:List af) (i:Nat),dx lefts outer l i=some true
 |[],_=>rfl
 |e::l,i=>by
  have ih:=ud lefts outer l (i+1)
  unfold dx
  by_cases h6:i=6
  ·rw [eF (by simp [h6])];rfl
  ·rw [ei (by simp;omega),zn]
   simp only [fM]
   exact Aq _ (zl _ _) outer _ i ih lefts 0
def rn(l:List af)(lefts:List Int)(outer:Bool):ki l lefts outer=some true:=by
 unfold ki
 rw [DW]
 simp only [fM,po,rZ,ov]
 exact ud lefts outer l 0
end Go.Proofs.YtbmmihfagmchaaaGreat

