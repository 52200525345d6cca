/- cW of this claim: E1. -/
import Derived.Test.YtbmmihfagmchaaaGreatRcQ3
set_option linter.all false
namespace Go.Proofs.YtbmmihfagmchaaaGreat
open Go

def Lx:uC=some true:=by kernel_rfl
def zW(xs:List aj): ∀(tl:List aj) (i:Nat),xs.drop i=tl->kf tl i ⟨(xs.take i).map IK++xs.drop i⟩=some ⟨xs.map IK⟩
 |[],i,h=>by
  have:=Bp.1 h
  simp only [kf]
  rw [h,rR,nM this]
 |e::tl,i,h=>by
  have hi:i<xs.length:=by
   rcases lz i xs.length with k|k
   ·exact k
   ·rw [CA k]at h;cases h
  simp only [kf]
  rw [zk IK xs i hi]
  simp only [bo,H9,t8]
  have hs:=zg IK xs i hi
  have hd:xs.drop (i+1)=tl:=by rw [<-p8,h];rfl
  rw [show({xs[i]with Value:={xs[i].Value with S:=M0 xs[i].Value.S}}:aj)=IK xs[i]from rfl,hs]
  exact zW xs tl (i+1) hd
def vW(e:ai):nG e=some ⟨vV e.Nodes 60⟩:=by
 unfold nG mN
 rw [show(60:Int)=((60:Nat):Int)from rfl,yh _ 60 (by omega)]
 simp only [bo]
 exact zW (e.Nodes.take 60) _ 0 rfl
def KN(e:ai){t:Tr}(D:iN e.Nodes=some t): ∃cs,kq e=some cs/\lX e=some cs/\cs.Pairwise (· < ·)/\(∀c∈cs,0<=c/\c<16)/\cs.length<=16/\ ∀n∈e.Nodes,n.Tag=2->n.Col∈cs:=by
 obtain⟨cs,Y,J⟩:=IN e D
 obtain⟨hw,hN,hs⟩:=i8 D
 have Z:=J
 unfold lX at Z
 rw [wP e 16 0 [] (by simp),je]at Z
 cases Z
 have hlt:=(FH e.Nodes 16 0).1
 have hr: ∀c∈G6 e.Nodes 16 0,0<=c/\c<16:=fun c hc=>by
  obtain⟨j,h4,h5,h6,_⟩:=(w7 _ _ _ _).1 hc
  omega
 refine⟨_,Y,J,hlt,hr,?_,fun n hn htag=>?_⟩
 ·have key: ∀(k i:Nat),(G6 e.Nodes k i).length<=k:=by
   intro k
   induction k with
   |zero=>intro i;simp [G6]
   |succ k ih=>intro i;simp only [G6,jO];have:=ih (i+1);split<;>simp<;>omega
  exact key 16 0
 ·have V:=qF hw 0 (by rw [<-hN];exact hn) htag
  refine(w7 _ _ _ _).2 ⟨n.Col.toNat,by omega,by omega,by omega,?_⟩
  unfold C4
  exact vJ.2 ⟨n,hn,by simp [htag];omega⟩
def uA(b:Int)(n:aj):aj:=if n.Tag=2 then{n with Col:=IntKind.i64.wrap (n.Col+b)}else n
def Ge(b:Int)(x:ai)(xs:List aj)(I: ∀n∈xs,n.Tag=2->0<=n.Col/\n.Col<16/\0<=n.Col+b/\n.Col+b<16)(V: -16<=b/\b<=16): ∀(tl:List aj) (i:Nat),xs.drop i=tl->ja b tl i x ⟨(xs.take i).map (uA b)++xs.drop i⟩=some (⟨xs.map (uA b)⟩,0)
 |[],i,h=>by
  have:=Bp.1 h
  simp only [ja]
  rw [h,rR,nM this]
 |e::tl,i,h=>by
  have hi:i<xs.length:=by
   rcases lz i xs.length with k|k
   ·exact k
   ·rw [CA k]at h;cases h
  have hs:=zg (uA b) xs i hi
  have hd:xs.drop (i+1)=tl:=by rw [<-p8,h];rfl
  have hn:=I xs[i] (Bk hi)
  unfold ja
  rw [zk (uA b) xs i hi]
  simp only [bo,t8,pr]
  by_cases D:xs[i].Tag=2
  ·obtain⟨a1,a2,a3,a4⟩:=hn D
   rw [bn (by simp [D]),bH (by omega) (by omega),bH (n:=16-xs[i].Col) (by omega) (by omega),bn (by simp;omega)]
   rw [show({xs[i]with Col:=IntKind.i64.wrap (xs[i].Col+b)}:aj)=uA b xs[i]from by unfold uA;rw [bE D],hs]
   exact Ge b x xs I V tl (i+1) hd
  ·rw [bE (by simp [D])]
   have e1:xs[i]=uA b xs[i]:=by unfold uA;rw [bn D]
   have e2:(xs.take i).map (uA b)++xs.drop i=(xs.take (i+1)).map (uA b)++xs.drop (i+1):=by
    rw [xB hi,HW hi,yX]
    simp [<-e1]
   rw [e2]
   exact Ge b x xs I V tl (i+1) hd
def Gg(b:Int)(xs:List aj): ∀(tl:List aj) (i:Nat),xs.drop i=tl->kb b tl i ⟨(xs.take i).map (uA b)++xs.drop i⟩=some (⟨xs.map (uA b)⟩,0)
 |[],i,h=>by
  have:=Bp.1 h
  simp only [kb]
  rw [h,rR,nM this]
 |e::tl,i,h=>by
  have hi:i<xs.length:=by
   rcases lz i xs.length with k|k
   ·exact k
   ·rw [CA k]at h;cases h
  have hs:=zg (uA b) xs i hi
  have hd:xs.drop (i+1)=tl:=by rw [<-p8,h];rfl
  unfold kb
  rw [zk (uA b) xs i hi]
  simp only [bo,t8]
  by_cases D:xs[i].Tag=2
  ·rw [bE (by simp [D])]
   rw [show({xs[i]with Col:=IntKind.i64.wrap (xs[i].Col+b)}:aj)=uA b xs[i]from by unfold uA;rw [bE D],hs]
   exact Gg b xs tl (i+1) hd
  ·rw [bn (by simp [D])]
   have e1:xs[i]=uA b xs[i]:=by unfold uA;rw [bn D]
   have e2:(xs.take i).map (uA b)++xs.drop i=(xs.take (i+1)).map (uA b)++xs.drop (i+1):=by
    rw [xB hi,HW hi,yX]
    simp [<-e1]
   rw [e2]
   exact Gg b xs tl (i+1) hd
def JT(e:ai)(b:Int)(hl:e.Nodes.length<=1000000)(V: -16<=b/\b<=16): ∀(cs:List Int),(∀c∈cs,0<=c/\c<16/\0<=c+b/\c+b<16)-> ∀x,lV e b cs x=some (⟨e.Nodes.map (uA b)⟩,0)
 |[],_,x=>by
  simp only [lV,An]
  rw [cL (by simp;omega)]
  simp only [bo,je]
  exact Gg b e.Nodes _ 0 rfl
 |c::cs,h,x=>by
  simp only [lV]
  obtain⟨Y,J,Z,h4⟩:=h c (mp ..)
  rw [bH (by omega) (by omega),bn (by simp;omega)]
  exact JT e b hl V cs (fun d hd=>h d (nu _ hd)) x
def FN(e:ai){t:Tr}(D:iN e.Nodes=some t){cs:List Int}(hc:lX e=some cs)(hm: ∀n∈e.Nodes,n.Tag=2->n.Col∈cs)(b:Int)(V: -16<=b/\b<=16)(h: ∀c∈cs,0<=c/\c<16/\0<=c+b/\c+b<16):
  tm e b=some (⟨e.Nodes.map (uA b)⟩,0)/\yE e b=some (⟨e.Nodes.map (uA b)⟩,0):=by
 have hr:fd e.Nodes=true:=by unfold fd;rw [D];rfl
 have hl:=s7 hr
 refine⟨?_,?_⟩
 ·unfold tm
  rw [lw e (by omega),hr]
  simp only [gu,bo]
  rw [bn (by decide),tu _ (by omega)]
  simp only [bo]
  exact Ge b _ e.Nodes (fun n hn htag=>h _ (hm n hn htag)) V _ 0 rfl
 ·unfold yE
  rw [hc]
  exact JT e b (by omega) V cs h _
def LW{cs:List Int}(h:cs.Pairwise (· < ·))(left:Int)(hl:cs.length<=16):(if(!((cs.length:Int)==(0:Int)))then((cU cs (IntKind.i64.wrap ((cs.length:Int)-(1:Int)))).bind fun e1=>some (decide (e1<left)))else some true)=some (cs.all fun c=>decide (c<left)):=by
 rcases List.eq_nil_or_concat cs with rfl|⟨ys,y,rfl⟩
 ·rfl
 ·rw [List.concat_eq_append]at h hl ⊢
  have e:((ys++[y]).length:Int)-1=(ys.length:Int):=by simp
  rw [bE (by simp;omega),e,bH (by omega) (by simp at hl;omega),cI]
  simp only [List.getElem?_concat_length,bo,List.all_append,vu,List.all_nil,zw]
  congr 1
  by_cases hy:y<left
  ·have:(ys.all fun c=>decide (c<left))=true:=jV.2 fun c hc=>by
    have:=(List.pairwise_append.1 h).2.2 c hc y (jY.2 rfl)
    exact decide_eq_true (by omega)
   rw [this];simp
  ·simp [hy]
def Kf{c:Int}{cs:List Int}(h:(c::cs).Pairwise (· < ·))(left:Int):((c::cs).all fun c=>decide (left<=c))=decide (left<=c):=by
 by_cases hy:left<=c
 ·have:(cs.all fun c=>decide (left<=c))=true:=jV.2 fun d hd=>by
   have:=(Bm.1 h).1 d hd
   exact decide_eq_true (by omega)
  rw [vu,this];simp
 ·simp [hy]
def HD{t:Tr}:t.wf-> ∀u∈eJ t,u.wf/\u.size<=t.size:=by
 induction t with
 |lf n=>intro hw u hu;simp only [eJ,jY]at hu;subst hu;exact⟨hw,dr _⟩
 |un n a _=>intro hw u hu;simp only [eJ,jY]at hu;subst hu;exact⟨hw,dr _⟩
 |bi n a b iha ihb=>
  intro hw u hu
  rw [mg]at hu
  split at hu
  ·rcases p9.1 hu with k|k
   ·have:=iha hw.2.1 u k;exact⟨this.1,by simp only [Tr.size];omega⟩
   ·have:=ihb hw.2.2 u k;exact⟨this.1,by simp only [Tr.size];omega⟩
  ·simp only [jY]at hu;subst hu;exact⟨hw,dr _⟩
end Go.Proofs.YtbmmihfagmchaaaGreat

