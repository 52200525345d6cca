import Derived.Test.YtaehdhmbgmbgiaaGreatDoorKkQ3
set_option linter.all false
namespace Go.Proofs.YtaehdhmbgmbgiaaGreatDoor
open Go IntKind
def ab7:CS=some true:=by kernel_rfl
def KV(xs:List av): ∀(tl:List av) (i:Nat),xs.drop i=tl->pU tl i ⟨(xs.take i).map YF++xs.drop i⟩=some ⟨xs.map YF⟩
 |[],i,h=>by
  have:=Jq.1 h;simp only [pU];rw [h,vb,rO this]
 |e::tl,i,h=>by
  have hi:i<xs.length:=by
   rcases wN i xs.length with k|k
   ·exact k
   ·rw [D0 k]at h;cases h
  simp only [pU];rw [Qh YF xs i hi];simp only [bw,XY,zn];have hs:=PH YF xs i hi;have hd:xs.drop (i+1)=tl:=by rw [<-uf,h];rfl
  rw [show({xs[i]with Value:={xs[i].Value with S:=aeG xs[i].Value.S}}:av)=YF xs[i]from rfl,hs];exact KV xs tl (i+1) hd
def Fa(e:au):uO e=some ⟨E9 e.j' 60⟩:=by
 unfold uO tJ;rw [show(60:Int)=((60:Nat):Int)from rfl,BN _ 60 (by omega)];simp only [bw];exact KV (e.j'.take 60) _ 0 rfl
def Jy(b:Int)(n:av):av:=if n.Tag=2 then{n with X':=i64.wrap (n.X'+b)}else n
def UJ(b:Int)(x:au)(xs:List av)(V: ∀n∈xs,n.Tag=2->0<=n.X'/\n.X'<16/\0<=n.X'+b/\n.X'+b<16)(H: -16<=b/\b<=16): ∀(tl:List av) (i:Nat),xs.drop i=tl->ol b tl i x ⟨(xs.take i).map (Jy b)++xs.drop i⟩=some (⟨xs.map (Jy b)⟩,0)
 |[],i,h=>by
  have:=Jq.1 h;simp only [ol];rw [h,vb,rO this]
 |e::tl,i,h=>by
  have hi:i<xs.length:=by
   rcases wN i xs.length with k|k
   ·exact k
   ·rw [D0 k]at h;cases h
  have hs:=PH (Jy b) xs i hi;have hd:xs.drop (i+1)=tl:=by rw [<-uf,h];rfl
  have hn:=V xs[i] (A5 hi);unfold ol;rw [Qh (Jy b) xs i hi];simp only [bw,zn,wJ];by_cases J:xs[i].Tag=2
  ·obtain⟨a1,a2,a3,a4⟩:=hn J;rw [aR (by simp [J]),cB (by omega) (by omega),cB (n:=16-xs[i].X') (by omega) (by omega),aR (by simp;omega)];rw [show({xs[i]with X':=i64.wrap (xs[i].X'+b)}:av)=Jy b xs[i]from by unfold Jy;rw [bz J],hs];exact UJ b x xs V H tl (i+1) hd
  ·rw [bz (by simp [J])];have e1:xs[i]=Jy b xs[i]:=by unfold Jy;rw [aR J]
   have e2:(xs.take i).map (Jy b)++xs.drop i=(xs.take (i+1)).map (Jy b)++xs.drop (i+1):=by
    rw [zX hi,TR hi,Cn];simp [<-e1]
   rw [e2];exact UJ b x xs V H tl (i+1) hd
def Z9: ∀(l:List Int) (k:Int),l.Pairwise (· < ·)->(∀c∈l,k<=c/\c<16)->k<=16->(l.length:Int)<=16-k
 |[],k,_,_,h=>by simp;omega
 |x::l,k,h,M,_=>by
  obtain⟨h3,h4⟩:=yF.1 h;have V:=M x (md ..);have:=Z9 l (x+1) h4 (fun c hc=>⟨by have:=h3 c hc;omega,(M c (ma _ hc)).2⟩) (by omega);simp only [jo];omega
def YJ(e:au){t:Tr}(J:ll e.j'=some t): ∃cs,rm e=some cs/\cs.Pairwise (· < ·)/\(∀c∈cs,0<=c/\c<16)/\cs.length<=16/\ ∀c,c∈cs↔ ∃n∈e.j',n.Tag=2/\n.X'=c:=by
 obtain⟨hw,hN,hs⟩:=kH J;have hr:gX e.j'=true:=by unfold gX;rw [J];rfl
 have hl:=Bp hr;have hm: ∀c,c∈sP (sortI (QP e.j'))↔ ∃n∈e.j',n.Tag=2/\n.X'=c:=fun c=>by rw [yu,Ox,Z7]
 have hlt:=abb _ (Zs (QP e.j'));have H: ∀c∈sP (sortI (QP e.j')),0<=c/\c<16:=fun c hc=>by
  obtain⟨n,hn,M,rfl⟩:=(hm c).1 hc;exact vm hw 0 (by rw [<-hN];exact hn) M
 refine⟨_,?_,hlt,H,?_,hm⟩
 ·unfold rm;rw [pr e (by omega),hr];have:=Di e.j' [] (by simp;omega);simpa using this
 ·have:=Z9 _ 0 hlt H (by omega);omega
def Uc(e:au){t:Tr}(J:ll e.j'=some t){cs:List Int}(hm: ∀n∈e.j',n.Tag=2->n.X'∈cs)(b:Int)(H: -16<=b/\b<=16)(h: ∀c∈cs,0<=c/\c<16/\0<=c+b/\c+b<16):BF e b=some (⟨e.j'.map (Jy b)⟩,0):=by
 have hr:gX e.j'=true:=by unfold gX;rw [J];rfl
 have hl:=Bp hr;unfold BF;rw [pr e (by omega),hr];simp only [hM,bw];rw [aR (by decide),BQ _ (by omega)];simp only [bw];exact UJ b _ e.j' (fun n hn htag=>h _ (hm n hn htag)) H _ 0 rfl
def acE{cs:List Int}(h:cs.Pairwise (· < ·))(left:Int)(hl:cs.length<=16):(if(!((cs.length:Int)==(0:Int)))then((cO cs (i64.wrap ((cs.length:Int)-(1:Int)))).bind fun e1=>some (decide (e1<left)))else some true)=some (cs.all fun c=>decide (c<left)):=by
 rcases List.eq_nil_or_concat cs with rfl|⟨ys,y,rfl⟩
 ·rfl
 ·rw [List.concat_eq_append]at h hl ⊢;have e:((ys++[y]).length:Int)-1=(ys.length:Int):=by simp
  rw [bz (by simp;omega),e,cB (by omega) (by simp at hl;omega),cG];simp only [List.getElem?_concat_length,bw,As,xr,FV,Cj];congr 1;by_cases hy:y<left
  ·have:(ys.all fun c=>decide (c<left))=true:=mN.2 fun c hc=>by
    have:=(List.pairwise_append.1 h).2.2 c hc y (mf.2 rfl);exact Cl (by omega)
   rw [this];simp
  ·simp [hy]
def aaA{c:Int}{cs:List Int}(h:(c::cs).Pairwise (· < ·))(left:Int):((c::cs).all fun c=>decide (left<=c))=decide (left<=c):=by
 by_cases hy:left<=c
 ·have:(cs.all fun c=>decide (left<=c))=true:=mN.2 fun d hd=>by
   have:=(yF.1 h).1 d hd;exact Cl (by omega)
  rw [xr,this];simp
 ·simp [hy]
def Xo{t:Tr}:t.wf-> ∀u∈dN t,u.wf/\u.size<=t.size:=by
 induction t with
 |lf n=>intro hw u hu;simp only [dN,mf]at hu;subst hu;exact⟨hw,kG _⟩
 |un n a _=>intro hw u hu;simp only [dN,mf]at hu;subst hu;exact⟨hw,kG _⟩
 |bi n a b iha ihb=>
  intro hw u hu;rw [qc]at hu;split at hu
  ·rcases qR.1 hu with k|k
   ·have:=iha hw.2.1 u k;exact⟨this.1,by simp only [Tr.size];omega⟩
   ·have:=ihb hw.2.2 u k;exact⟨this.1,by simp only [Tr.size];omega⟩
  ·simp only [mf]at hu;subst hu;exact⟨hw,kG _⟩
