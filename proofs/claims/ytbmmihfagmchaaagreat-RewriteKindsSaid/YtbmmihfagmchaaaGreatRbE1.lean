/- cP of this claim: E1. -/
import Derived.Test.YtbmmihfagmchaaaGreatRbQ3
set_option linter.all false
namespace Go.Proofs.YtbmmihfagmchaaaGreat
open Go

def LB:ur=some true:=by kernel_rfl
def zO(xs:List aj): ∀(tl:List aj) (i:Nat),xs.drop i=tl->j4 tl i ⟨(xs.take i).map IC++xs.drop i⟩=some ⟨xs.map IC⟩
 |[],i,h=>by
  have:=Bi.1 h
  simp only [j4]
  rw [h,rD,nE this]
 |e::tl,i,h=>by
  have hi:i<xs.length:=by
   rcases ll i xs.length with k|k
   ·exact k
   ·rw [Ct k]at h;cases h
  simp only [j4]
  rw [zh IC xs i hi]
  simp only [bt,H3,tR]
  have hs:=zd IC xs i hi
  have hd:xs.drop (i+1)=tl:=by rw [<-pX,h];rfl
  rw [show({xs[i]with Value:={xs[i].Value with S:=Nf xs[i].Value.S}}:aj)=IC xs[i]from rfl,hs]
  exact zO xs tl (i+1) hd
def vK(e:ai):nv e=some ⟨vJ e.Nodes 60⟩:=by
 unfold nv mG
 rw [show(60:Int)=((60:Nat):Int)from rfl,ya _ 60 (by omega)]
 simp only [bt]
 exact zO (e.Nodes.take 60) _ 0 rfl
def KR(e:ai){t:Tr}(D:iF e.Nodes=some t): ∃cs,kb e=some cs/\lS e=some cs/\cs.Pairwise (· < ·)/\(∀c∈cs,0<=c/\c<16)/\cs.length<=16/\ ∀n∈e.Nodes,n.Tag=2->n.Col∈cs:=by
 obtain⟨cs,Y,J⟩:=IF e D
 obtain⟨hw,hN,hs⟩:=iR D
 have Z:=J
 unfold lS at Z
 rw [wI e 16 0 [] (by simp),iW]at Z
 cases Z
 have hlt:=(FC e.Nodes 16 0).1
 have hr: ∀c∈G0 e.Nodes 16 0,0<=c/\c<16:=fun c hc=>by
  obtain⟨j,h4,h5,h6,_⟩:=(wS _ _ _ _).1 hc
  omega
 refine⟨_,Y,J,hlt,hr,?_,fun n hn htag=>?_⟩
 ·have key: ∀(k i:Nat),(G0 e.Nodes k i).length<=k:=by
   intro k
   induction k with
   |zero=>intro i;simp [G0]
   |succ k ih=>intro i;simp only [G0,jE];have:=ih (i+1);split<;>simp<;>omega
  exact key 16 0
 ·have V:=qv hw 0 (by rw [<-hN];exact hn) htag
  refine(wS _ _ _ _).2 ⟨n.Col.toNat,by omega,by omega,by omega,?_⟩
  unfold CV
  exact vv.2 ⟨n,hn,by simp [htag];omega⟩
def uo(b:Int)(n:aj):aj:=if n.Tag=2 then{n with Col:=IntKind.i64.wrap (n.Col+b)}else n
def Ga(b:Int)(x:ai)(xs:List aj)(I: ∀n∈xs,n.Tag=2->0<=n.Col/\n.Col<16/\0<=n.Col+b/\n.Col+b<16)(V: -16<=b/\b<=16): ∀(tl:List aj) (i:Nat),xs.drop i=tl->iU b tl i x ⟨(xs.take i).map (uo b)++xs.drop i⟩=some (⟨xs.map (uo b)⟩,0)
 |[],i,h=>by
  have:=Bi.1 h
  simp only [iU]
  rw [h,rD,nE this]
 |e::tl,i,h=>by
  have hi:i<xs.length:=by
   rcases ll i xs.length with k|k
   ·exact k
   ·rw [Ct k]at h;cases h
  have hs:=zd (uo b) xs i hi
  have hd:xs.drop (i+1)=tl:=by rw [<-pX,h];rfl
  have hn:=I xs[i] (Bd hi)
  unfold iU
  rw [zh (uo b) xs i hi]
  simp only [bt,tR,pj]
  by_cases D:xs[i].Tag=2
  ·obtain⟨a1,a2,a3,a4⟩:=hn D
   rw [bo (by simp [D]),bB (by omega) (by omega),bB (n:=16-xs[i].Col) (by omega) (by omega),bo (by simp;omega)]
   rw [show({xs[i]with Col:=IntKind.i64.wrap (xs[i].Col+b)}:aj)=uo b xs[i]from by unfold uo;rw [bD D],hs]
   exact Ga b x xs I V tl (i+1) hd
  ·rw [bD (by simp [D])]
   have e1:xs[i]=uo b xs[i]:=by unfold uo;rw [bo D]
   have e2:(xs.take i).map (uo b)++xs.drop i=(xs.take (i+1)).map (uo b)++xs.drop (i+1):=by
    rw [xu hi,HQ hi,yW]
    simp [<-e1]
   rw [e2]
   exact Ga b x xs I V tl (i+1) hd
def Gb(b:Int)(xs:List aj): ∀(tl:List aj) (i:Nat),xs.drop i=tl->jZ b tl i ⟨(xs.take i).map (uo b)++xs.drop i⟩=some (⟨xs.map (uo b)⟩,0)
 |[],i,h=>by
  have:=Bi.1 h
  simp only [jZ]
  rw [h,rD,nE this]
 |e::tl,i,h=>by
  have hi:i<xs.length:=by
   rcases ll i xs.length with k|k
   ·exact k
   ·rw [Ct k]at h;cases h
  have hs:=zd (uo b) xs i hi
  have hd:xs.drop (i+1)=tl:=by rw [<-pX,h];rfl
  unfold jZ
  rw [zh (uo b) xs i hi]
  simp only [bt,tR]
  by_cases D:xs[i].Tag=2
  ·rw [bD (by simp [D])]
   rw [show({xs[i]with Col:=IntKind.i64.wrap (xs[i].Col+b)}:aj)=uo b xs[i]from by unfold uo;rw [bD D],hs]
   exact Gb b xs tl (i+1) hd
  ·rw [bo (by simp [D])]
   have e1:xs[i]=uo b xs[i]:=by unfold uo;rw [bo D]
   have e2:(xs.take i).map (uo b)++xs.drop i=(xs.take (i+1)).map (uo b)++xs.drop (i+1):=by
    rw [xu hi,HQ hi,yW]
    simp [<-e1]
   rw [e2]
   exact Gb b xs tl (i+1) hd
def JS(e:ai)(b:Int)(hl:e.Nodes.length<=1000000)(V: -16<=b/\b<=16): ∀(cs:List Int),(∀c∈cs,0<=c/\c<16/\0<=c+b/\c+b<16)-> ∀x,lQ e b cs x=some (⟨e.Nodes.map (uo b)⟩,0)
 |[],_,x=>by
  simp only [lQ,Ah]
  rw [cC (by simp;omega)]
  simp only [bt,iW]
  exact Gb b e.Nodes _ 0 rfl
 |c::cs,h,x=>by
  simp only [lQ]
  obtain⟨Y,J,Z,h4⟩:=h c (lK ..)
  rw [bB (by omega) (by omega),bo (by simp;omega)]
  exact JS e b hl V cs (fun d hd=>h d (mZ _ hd)) x
def FJ(e:ai){t:Tr}(D:iF e.Nodes=some t){cs:List Int}(hc:lS e=some cs)(hm: ∀n∈e.Nodes,n.Tag=2->n.Col∈cs)(b:Int)(V: -16<=b/\b<=16)(h: ∀c∈cs,0<=c/\c<16/\0<=c+b/\c+b<16):
  td e b=some (⟨e.Nodes.map (uo b)⟩,0)/\yE e b=some (⟨e.Nodes.map (uo b)⟩,0):=by
 have hr:dX e.Nodes=true:=by unfold dX;rw [D];rfl
 have hl:=qD hr
 refine⟨?_,?_⟩
 ·unfold td
  rw [jI e (by omega),hr]
  simp only [fP,bt]
  rw [bo (by decide),tg _ (by omega)]
  simp only [bt]
  exact Ga b _ e.Nodes (fun n hn htag=>h _ (hm n hn htag)) V _ 0 rfl
 ·unfold yE
  rw [hc]
  exact JS e b (by omega) V cs h _
def L0{cs:List Int}(h:cs.Pairwise (· < ·))(left:Int)(hl:cs.length<=16):(if(!((cs.length:Int)==(0:Int)))then((cQ cs (IntKind.i64.wrap ((cs.length:Int)-(1:Int)))).bind fun e1=>some (decide (e1<left)))else some true)=some (cs.all fun c=>decide (c<left)):=by
 rcases List.eq_nil_or_concat cs with rfl|⟨ys,y,rfl⟩
 ·rfl
 ·rw [List.concat_eq_append]at h hl ⊢
  have e:((ys++[y]).length:Int)-1=(ys.length:Int):=by simp
  rw [bD (by simp;omega),e,bB (by omega) (by simp at hl;omega),cw]
  simp only [List.getElem?_concat_length,bt,List.all_append,vb,List.all_nil,zr]
  congr 1
  by_cases hy:y<left
  ·have:(ys.all fun c=>decide (c<left))=true:=jK.2 fun c hc=>by
    have:=(List.pairwise_append.1 h).2.2 c hc y (jL.2 rfl)
    exact decide_eq_true (by omega)
   rw [this];simp
  ·simp [hy]
def Kh{c:Int}{cs:List Int}(h:(c::cs).Pairwise (· < ·))(left:Int):((c::cs).all fun c=>decide (left<=c))=decide (left<=c):=by
 by_cases hy:left<=c
 ·have:(cs.all fun c=>decide (left<=c))=true:=jK.2 fun d hd=>by
   have:=(Bf.1 h).1 d hd
   exact decide_eq_true (by omega)
  rw [vb,this];simp
 ·simp [hy]
def Hz{t:Tr}:t.wf-> ∀u∈ev t,u.wf/\u.size<=t.size:=by
 induction t with
 |lf n=>intro hw u hu;simp only [ev,jL]at hu;subst hu;exact⟨hw,iQ _⟩
 |un n a _=>intro hw u hu;simp only [ev,jL]at hu;subst hu;exact⟨hw,iQ _⟩
 |bi n a b iha ihb=>
  intro hw u hu
  rw [mb]at hu
  split at hu
  ·rcases pY.1 hu with k|k
   ·have:=iha hw.2.1 u k;exact⟨this.1,by simp only [Tr.size];omega⟩
   ·have:=ihb hw.2.2 u k;exact⟨this.1,by simp only [Tr.size];omega⟩
  ·simp only [jL]at hu;subst hu;exact⟨hw,iQ _⟩
end Go.Proofs.YtbmmihfagmchaaaGreat

