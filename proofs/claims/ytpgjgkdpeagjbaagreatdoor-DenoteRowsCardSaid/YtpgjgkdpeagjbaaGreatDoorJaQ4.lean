/- eJ of this claim: J8, J9, J10, J11, Q1, Q2, Q3, J12, J13, J14. -/
import Derived.Test.YtpgjgkdpeagjbaaGreatDoorJaQ3
import Derived.Test.YtpgjgkdpeagjbaaGreatDoorJaQ1
import Derived.Laws.RangeAny
import Derived.Shelf.Strings.CaseAny
set_option linter.all false
namespace Go.Proofs.YtpgjgkdpeagjbaaGreatDoor
open Go

variable{i:Nat}{ks:Nat->List Int}{n:aq}{r:cS}{rows:List (List cS)}
def Q0{g:jt}(H:MX g.Arg){ks:List Int}(h:(Et g ks).2=true){rows:List cS}(hr:rG ks rows)(hl:rows.length<=8000):((wH g rows).2=0/\Pl (wH g rows).1/\t7 (wH g rows).1 (Et g ks).1)\/(wH g rows=(zV,140)/\UH g=true):=by
 obtain⟨s1,s2⟩:=GN g ks
 rw [<-s1]at h
 rw [<-s2 h]
 unfold S5 at h ⊢
 unfold wH
 have hi: ∀n:Nat,n<=8000->Pl (iV (n:Int))/\t7 (iV (n:Int)) 2:=fun n hn=>⟨.i _ (by unfold r64;omega),.inl rfl⟩
 by_cases I:g.Tag=1
 ·rw [br I,br I]
  exact .inl ⟨rfl,hi _ hl⟩
 ·rw [aS I]at h ⊢
  rw [aS I]
  have hk:(gh g.Arg ks).2=0:=by
   by_cases K:g.Tag=2
   ·rw [br K]at h;simpa using h
   ·rw [aS K]at h
    by_cases h3:g.Tag=3
    ·rw [br h3]at h;simp only [gN,uZ]at h;exact h.1
    ·rw [aS h3]at h
     by_cases h4:g.Tag=4\/g.Tag=5
     ·rw [br h4]at h;simpa using h
     ·rw [aS h4]at h;cases h
  have M:Gn g.Arg.Nodes rows=false:=by
   unfold Gn
   rw [List.any_eq_false]
   intro r hm
   rcases W0 H hk (hr r hm)with q|q
   ·rw [q.1];decide
   ·rw [q.1];decide
  have hvs: ∀v∈D7 g.Arg.Nodes rows,Pl v/\v.Kind=(gh g.Arg ks).1:=by
   intro v hv
   refine⟨MH H.rg hr.rg v hv,?_⟩
   unfold D7 at hv
   obtain⟨r,hm,he⟩:=List.mem_filterMap.1 hv
   split at he
   ·rename_i hc
    injection he with he
    rcases W0 H hk (hr r hm)with q|q
    ·rw [<-he]
     exact q.2.2.2.resolve_right hc.2
    ·rw [q.1]at hc;exact absurd hc.1 (by decide)
   ·cases he
  have hlen:=SF g.Arg.Nodes rows
  have ho:vd g.Tag (D7 g.Arg.Nodes rows)=false:=by
   unfold vd
   by_cases h3:g.Tag=3
   ·rw [aS (by omega),br h3]at h
    simp only [gN,uZ,tB]at h
    rw [h3]
    simp only [Fx,xr]
    rw [List.any_eq_false]
    intro v hv
    have hkv:=(hvs v hv).2
    have hne:v.Kind≠0:=by
     unfold D7 at hv
     obtain⟨r,hm,he⟩:=List.mem_filterMap.1 hv
     split at he
     ·rename_i hc;injection he with he;rw [<-he];exact hc.2
     ·cases he
    simp only [ux,sJ,Classical.not_not]
    omega
   ·have:(g.Tag==3)=false:=by simpa using h3
    rw [this];rfl
  rw [M,ho]
  simp only [Bool.or_self,iq,fU]
  by_cases hf:Gi g.Arg.Nodes rows=true
  ·rw [br hf]
   refine .inr ⟨rfl,?_⟩
   unfold UH
   split
   ·rfl
   ·unfold Gi at hf
    obtain⟨r,hm,hq⟩:=zR.1 hf
    rcases W0 H hk (hr r hm)with q|q
    ·rw [q.1]at hq;cases hq
    ·unfold Nr
     rw [q.2.2.2,B2]
     cases hn:g.Arg.Nodes with
     |nil=>have:=q.2.2.2;rw [hn]at this;cases this
     |cons x t=>rfl
  ·rw [aS hf]
   unfold VG
   rw [aS (by decide)]
   by_cases K:g.Tag=2
   ·rw [br K,br K]
    exact .inl ⟨rfl,hi _ (by omega)⟩
   ·rw [aS K,aS K]
    by_cases h3:g.Tag=3
    ·rw [br h3,br h3]
     unfold US
     split
     ·exact .inl ⟨rfl,.z,.inr rfl⟩
     ·by_cases hs:r64 (tH (D7 g.Arg.Nodes rows))
      ·rw [br hs];exact .inl ⟨rfl,.i _ hs,.inl rfl⟩
      ·rw [aS hs];exact .inr ⟨rfl,by unfold UH;rw [br h3]⟩
    ·rw [aS h3,aS h3]
     have h45:g.Tag=4\/g.Tag=5:=by
      rw [aS K,aS h3]at h
      by_cases h4:g.Tag=4\/g.Tag=5
      ·exact h4
      ·rw [aS h4]at h;cases h
     rw [br h45]
     refine .inl ⟨rfl,?_⟩
     by_cases hz:D7 g.Arg.Nodes rows=[]
     ·rw [hz];exact⟨.z,.inr rfl⟩
     ·have:=hvs _ (Wz g.Tag _ hz)
      exact⟨this.1,.inl this.2⟩
def NQ(aggs:List jt)(g:eg):cS:=g.Key++aggs.map fun a=>(wH a g.Rows).1
def AR(aggs:List jt)(g:eg):Bool:=aggs.any fun a=>(wH a g.Rows).2==140
def ZX(aggs:List jt)(g:eg):Prop:= ∀a∈aggs,oh a g.Rows=some (wH a g.Rows)/\pe a g.Rows=some (wH a g.Rows)/\((wH a g.Rows).2=0\/wH a g.Rows=(zV,140))
def VA(nx:List cS->Option (List cS×Int))(g:eg)(out:List cS)(ho:out.length<=1000000): ∀(aggs:List jt) (x:cS),ZX aggs g->x.length+aggs.length<=1000000->j6 nx g out aggs x=if AR aggs g then some ([],140)else nx (out++[x++aggs.map fun a=>(wH a g.Rows).1])
 |[],x,_,_=>by unfold j6;rw [cA (by simp;omega)];simp [AR]
 |a::t,x,h,hl=>by
  rw [io]at hl
  unfold j6
  obtain⟨I,_,h3⟩:=h a (mp ..)
  have Y:ZX t g:=fun x V=>h x (lT a V)
  have e1:AR (a::t) g=((wH a g.Rows).2==140||AR t g):=rfl
  rw [I,bt,e1]
  rcases h3 with q|q
  ·rw [aS (by rw [q];decide),cA (by simp;omega),bt,VA nx g out ho t _ Y (by simp only [ju,vl];omega),q]
   simp
  ·rw [q];rfl
def Um(r:cS)(h:r.length<=1000):dx r=some r:=Fq r (by omega)
def VB{n:aq}(ha:n.Aggs.length<=100000): ∀(gs:List eg) (out:List cS),(∀g∈gs,ZX n.Aggs g/\g.Key.length<=1000)->out.length+gs.length<=1000000->hT n gs out=some (if gs.any (AR n.Aggs)then([],140)else(out++gs.map (NQ n.Aggs),0))
 |[],out,_,_=>by unfold hT;simp
 |g::t,out,h,hl=>by
  rw [io]at hl
  unfold hT
  obtain⟨I,K⟩:=h g (mp ..)
  have Y:=fun x V=>h x (lT g V)
  rw [Um _ K,bt,VA _ g out (by omega) n.Aggs g.Key I (by omega),wU]
  by_cases hf:AR n.Aggs g=true
  ·rw [hf];rfl
  ·rw [p8.2 hf]
   simp only [iq,fU,xL]
   rw [VB ha t _ Y (by simp only [ju,vl];omega)]
   simp [NQ]
def HD(nx:List cS->Int->Option (List cS×Int))(g:eg)(out:List cS)(ho:out.length<=1000000): ∀(aggs:List jt) (x:cS) (f:Int),ZX aggs g->x.length+aggs.length<=1000000->jO nx g out aggs x f=nx (out++[x++aggs.map fun a=>(wH a g.Rows).1]) (if AR aggs g then 140 else f)
 |[],x,f,_,_=>by unfold jO;rw [cA (by simp;omega)];simp [AR]
 |a::t,x,f,h,hl=>by
  rw [io]at hl
  unfold jO
  obtain⟨_,I,h3⟩:=h a (mp ..)
  have Y:ZX t g:=fun x V=>h x (lT a V)
  have e1:AR (a::t) g=((wH a g.Rows).2==140||AR t g):=rfl
  have hk1: ∀f1:Int,qk (jO nx g out t) x (wH a g.Rows) f1=nx (out++[x++(a::t).map fun a=>(wH a g.Rows).1]) (if AR t g then 140 else f1):=by
   intro f1
   unfold qk
   rw [cA (by simp;omega),bt,HD nx g out ho t _ f1 Y (by simp only [ju,vl];omega),ji,Cv]
   rfl
  rw [I,bt,hk1,hk1,e1]
  rcases h3 with q|q
  ·rw [aS (by rw [q];decide),q];simp
  ·rw [q];simp
def HE{aggs:List jt}(ha:aggs.length<=100000): ∀(gs:List eg) (out:List cS) (f:Int),(∀g∈gs,ZX aggs g/\g.Key.length<=1000)->out.length+gs.length<=1000000->jP aggs gs out f=some (out++gs.map (NQ aggs),if gs.any (AR aggs)then 140 else f)
 |[],out,f,_,_=>by unfold jP;simp
 |g::t,out,f,h,hl=>by
  rw [io]at hl
  unfold jP
  obtain⟨I,K⟩:=h g (mp ..)
  have Y:=fun x V=>h x (lT g V)
  have M:ni g.Key []=some g.Key:=by
   unfold ni
   rw [cA (by simp;omega),bt,cA (by simp;omega)]
   simp
  rw [M,bt,HD _ g out (by omega) aggs g.Key f I (by omega),HE ha t _ _ Y (by simp only [ju,vl];omega),wU]
  by_cases hf:AR aggs g=true
  ·rw [hf];simp [NQ]
  ·rw [p8.2 hf];simp [NQ]
variable{e:cy}
def Nv{r:cS}: ∀{c:List Int} (out:cS),(∀e∈c,0<=e/\e<(r.length:Int))->out.length+c.length<=1000->ov r c out=some (out++c.map (atR r))
 |[],out,_,_=>by unfold ov;simp
 |e::t,out,h,hl=>by
  rw [io]at hl
  unfold ov
  have he:=h e (mp ..)
  rw [DX he.1 he.2,bt,cA (by simp;omega),bt,Nv _ (fun x V=>h x (lT _ V)) (by simp only [ju,vl];omega)]
  simp
def UQ{c:List Int}(h:k5 r c=true):gQ c r=c.map (atR r):=by
 unfold k5 at h
 rw [gN,j9,p7]at h
 have:pb r c=some ([]++c.map (atR r)):=Nv [] (fun e he=>by have:=h.2 e he;simpa using this) (by simp;omega)
 unfold gQ
 rw [this];rfl
def RK.key{ks:List Int}(h:RK ks r): ∀c:List Int,(∀e∈c,0<=e/\e<(ks.length:Int))->RK (c.map (H9 ks)) (c.map (atR r)):=fun c hc=>
 RK.map (atR r) (H9 ks) c fun e he=>by
  obtain⟨I,K⟩:=hc e he
  exact h.at e.toNat (by omega)
def gP(c:List Int)(l:List cS):List eg:=if c=[]/\qM c l=[]then [⟨[],[]⟩]else qM c l
structure JD(n:aq)(ks:List Int):Prop where
 cols: ∀c∈n.Keys,0<=c/\c<(ks.length:Int)
 ags: ∀g∈n.Aggs,MX g.Arg/\(Et g ks).2=true
 len:ks.length<=16
 keys:n.Keys.length<=16
 naggs:n.Aggs.length<=5000
variable{l:cC}
def LW{ks:List Int}(h:JD n ks){l:List cS}(hr:rG ks l):AK l n.Keys=true:=by
 unfold AK
 simp only [gN,j9,p7]
 refine⟨⟨h.keys,fun e he=>(h.cols e he).1⟩,fun r hm=>?_⟩
 unfold k5
 simp only [gN,j9,p7]
 refine⟨h.keys,fun e he=>?_⟩
 have:=(hr r hm).len
 have:=h.cols e he
 omega
def abn{g:jt}{ks:List Int}(h:(Et g ks).2=true):g.Tag=1\/g.Tag=2\/g.Tag=3\/g.Tag=4\/g.Tag=5:=by
 rw [<-(GN g ks).1]at h
 unfold S5 at h
 by_cases I:g.Tag=1
 ·exact .inl I
 ·by_cases K:g.Tag=2
  ·exact .inr (.inl K)
  ·by_cases h3:g.Tag=3
   ·exact .inr (.inr (.inl h3))
   ·by_cases h4:g.Tag=4\/g.Tag=5
    ·exact .inr (.inr (.inr h4))
    ·rw [aS I,aS K,aS h3,aS h4]at h;cases h
def WR{ks:List Int}(h:JD n ks){key:cS}{rows:List cS}(hr:rG ks rows)(hl:rows.length<=8000):ZX n.Aggs ⟨key,rows⟩:=by
 intro a ha
 obtain⟨I,K⟩:=h.ags a ha
 refine⟨BU a (by have:=I.len;omega) I.rg (abn K) hr.rg (by show rows.length<=90000;omega),CK a I.rg hr.rg (by show rows.length<=90000;omega),?_⟩
 rcases Q0 I K hr hl with q|q
 ·exact .inl q.1
 ·exact .inr q.1
def abp{ks:List Int}(h:JD n ks){key:cS}{rows:List cS}(hr:rG ks rows)(hl:rows.length<=8000)(hk:RK (n.Keys.map (H9 ks)) key):RK (n.Keys.map (H9 ks)++n.Aggs.map fun g=>(Et g ks).1) (NQ n.Aggs ⟨key,rows⟩):=by
 refine hk.app (RK.map _ _ _ fun a ha=>?_)
 obtain⟨I,K⟩:=h.ags a ha
 rcases Q0 I K hr hl with q|q
 ·exact q.2
 ·show Pl (wH a rows).1/\t7 (wH a rows).1 _
  rw [q.1];exact⟨.z,.inr rfl⟩
def D0{ks:List Int}(h:JD n ks){l:List cS}(hr:rG ks l)(hl:l.length<=8000): ∀g∈gP n.Keys l,∃key rows,g=⟨key,rows⟩/\rG ks rows/\rows.length<=8000/\RK (n.Keys.map (H9 ks)) key:=by
 intro g H
 unfold gP at H
 split at H
 ·rename_i hc
  have hc1:=hc.1
  simp only [EE]at H
  subst H
  refine⟨[],[],rfl,(fun r hr=>by cases hr),by simp,?_⟩
  rw [hc1];trivial
 ·unfold qM at H
  obtain⟨k,hk,e⟩:=xT.1 H
  subst e
  refine⟨_,_,rfl,?_,?_,?_⟩
  ·intro r hm
   rw [(lJ fe _).mem_iff]at hm
   exact hr r (JG.1 hm).1
  ·rw [um]
   have:=Re (fun r=>decide (gQ n.Keys r=k)) l
   omega
  ·rw [yk,(lJ fe _).mem_iff]at hk
   obtain⟨r,hm,e⟩:=xT.1 hk
   have hoc:=Bm (LW h hr) hm
   rw [<-e,UQ hoc]
   exact(hr r hm).key n.Keys h.cols
def Mg(c:List Int)(l:List cS)(hl:l.length<=8000):(gP c l).length<=8000:=by
 unfold gP
 split
 ·simp
 ·unfold qM
  rw [B3]
  have:=Fe (rO (l.map (gQ c)))
  rw [um,B3]at this
  omega
def t8(n:aq)(l:List cS):List cS×Int:=if(gP n.Keys l).any (AR n.Aggs)then([],140)else((gP n.Keys l).map (NQ n.Aggs),0)
def VC{ks:List Int}(h:JD n ks){l:List cS}(hr:rG ks l)(hl:l.length<=8000)(ob:fy)(hA:di ob.rows n.A=some l):kM ob n=some (t8 n l):=by
 unfold kM
 rw [hA,bt,Jl (hr.small h.len hl) (hr.allr h.len) (LW h hr),bt]
 rw [aS (by show¬((0:Int) !=0)=true;decide)]
 have hgs: ∀g∈gP n.Keys l,ZX n.Aggs g/\g.Key.length<=1000:=by
  intro g H
  obtain⟨key,rows,e,p1,p2,p3⟩:=D0 h hr hl g H
  subst e
  refine⟨WR h p1 p2,?_⟩
  have:=p3.len
  have hk:=h.keys
  rw [B3]at this
  show key.length<=1000
  omega
 have main:hT n (gP n.Keys l) []=some (t8 n l):=by
  rw [VB (by have:=h.naggs;omega) _ [] hgs (by have:=Mg n.Keys l hl;simp only [oo];omega)]
  rfl
 rw [<-main]
 unfold nH gP
 by_cases hc:n.Keys=[]/\qM n.Keys l=[]
 ·rw [br (by rw [hc.2,hc.1];rfl),br hc]
 ·rw [aS,aS hc]
  intro hh
  simp only [gN,uZ]at hh
  exact hc ⟨vZ (by omega),vZ (by omega)⟩
def Lz{ks:List Int}(h:JD n ks){l:List cS}(hr:rG ks l)(hl:l.length<=8000): ∃out,w7 l n.Keys n.Aggs=some (out,(t8 n l).2)/\((t8 n l).2=0->out=(t8 n l).1):=by
 unfold w7
 rw [Gg (hr.small h.len hl) (LW h hr),bt]
 have hgs: ∀g∈gP n.Keys l,ZX n.Aggs g/\g.Key.length<=1000:=by
  intro g H
  obtain⟨key,rows,e,p1,p2,p3⟩:=D0 h hr hl g H
  subst e
  refine⟨WR h p1 p2,?_⟩
  have:=p3.len
  have hk:=h.keys
  rw [B3]at this
  show key.length<=1000
  omega
 have main:=HE (aggs:=n.Aggs) (by have:=h.naggs;omega) (gP n.Keys l) [] 0 hgs (by have:=Mg n.Keys l hl;simp only [oo];omega)
 have e:(if(((n.Keys.length:Int)==(0:Int))&&(((qM n.Keys l).length:Int)==(0:Int)))=true then nP n.Aggs [⟨[],[]⟩]else nP n.Aggs (qM n.Keys l))=jP n.Aggs (gP n.Keys l) [] 0:=by
  unfold nP gP
  by_cases hc:n.Keys=[]/\qM n.Keys l=[]
  ·rw [br (by rw [hc.2,hc.1];rfl),br hc]
  ·rw [aS,aS hc]
   intro hh
   simp only [gN,uZ]at hh
   exact hc ⟨vZ (by omega),vZ (by omega)⟩
 rw [e,main]
 unfold t8
 by_cases hf:(gP n.Keys l).any (AR n.Aggs)=true
 ·rw [hf];exact⟨_,rfl,fun h=>by cases h⟩
 ·rw [p8.2 hf];exact⟨_,rfl,fun _=>rfl⟩
def VD{ks:List Int}(h:JD n ks){l:List cS}(hr:rG ks l)(hl:l.length<=8000):rG (n.Keys.map (H9 ks)++n.Aggs.map fun g=>(Et g ks).1) (t8 n l).1/\(t8 n l).1.length<=8000/\((t8 n l).2=0\/t8 n l=([],140)/\n.Aggs.any UH=true):=by
 unfold t8
 by_cases hf:(gP n.Keys l).any (AR n.Aggs)=true
 ·rw [br hf]
  refine⟨(fun r hr=>by cases hr),by simp,.inr ⟨rfl,?_⟩⟩
  obtain⟨g,H,hfg⟩:=zR.1 hf
  obtain⟨key,rows,e,p1,p2,p3⟩:=D0 h hr hl g H
  subst e
  unfold AR at hfg
  obtain⟨a,ha,hq⟩:=zR.1 hfg
  obtain⟨I,K⟩:=h.ags a ha
  rcases Q0 I K p1 p2 with q|q
  ·rw [q.1]at hq;cases hq
  ·exact zR.2 ⟨a,ha,q.2⟩
 ·rw [aS hf]
  refine⟨?_,by rw [B3];exact Mg _ _ hl,.inl rfl⟩
  intro r hm
  obtain⟨g,H,e⟩:=xT.1 hm
  obtain⟨key,rows,e2,p1,p2,p3⟩:=D0 h hr hl g H
  subst e2
  rw [<-e]
  exact abp h p1 p2 p3

def nu(e:cy)(b:List cS)(x:cS):List cS:=(b.map fun y=>x++y).filter (ox e)
def wS(e:cy)(b:List cS)(x:cS):Bool:=b.any fun y=>ox e (x++y)
def zi(e:cy)(b:List cS)(x:cS):Bool:=b.any fun y=>tq e (x++y)
def yo(e:cy)(b:List cS)(w:Nat)(left:Bool)(x:cS):List cS:=if left&& !wS e b x then [x++List.replicate w zV]else []
def Bq(e:cy)(b:List cS)(x:cS):(nu e b x).length<=b.length:=by
 unfold nu
 have:=Re (ox e) (b.map fun y=>x++y)
 rw [B3]at this
 exact this
def Kp(e:cy)(b:List cS)(w:Nat)(left:Bool)(x:cS):(yo e b w left x).length<=1:=by
 unfold yo;split<;>simp
def xk{α β:Type}(f:α->List β)(m:Nat)(h: ∀x,(f x).length<=m): ∀l:List α,(l.flatMap f).length<=l.length*m
 |[]=>by simp
 |x::t=>by
  rw [GT,ju,io,wO,Nat.one_mul]
  have:=xk f m h t
  have:=h x
  omega
def WP(n:Int)(h0:0<=n)(h:n<=68719476736):i8 n=some []:=by
 unfold i8 jM
 rw [aS (by simp;omega)]
 have e:IntKind.i64.wrap (n-IntKind.i64.wrap ((0:Int)-0))=n:=by
  rw [dm (n:=(0:Int)-0) (by omega) (by omega),dm (by omega) (by omega)];omega
 rw [e]
 by_cases hp:0<n
 ·rw [br (by simpa using hp)]
  unfold gt0 qe
  rw [br hp]
  simp only [bt]
  rw [br ⟨h0,h⟩]
  simp only [bt]
  rw [show eS (List.replicate n.toNat (⟨0,0,0,[]⟩:ac)) 0 0=some []from by unfold eS;rw [br (by simp;omega)];simp]
  rfl
 ·rw [aS (by simpa using hp)];rfl
def I7(a b:cS)(ha:a.length<=8000)(M:b.length<=8000):eW [a,b]=some (a++b):=by
 unfold eW
 simp only [gD]
 rw [dm (n:=(0:Int)+(a.length:Int)) (by omega) (by omega),aS (by simp),dm (by omega) (by omega),aS (by simp;omega),WP _ (by omega) (by omega)]
 simp only [bt,gC]
 rw [cA (by simp;omega)]
 simp only [bt,lU]
 rw [cA (by omega)]
 rfl
def IL(a b:cS)(ha:a.length<=8000)(M:b.length<=8000):ni a b=some (a++b):=by
 unfold ni
 rw [cA (by simp;omega),bt,lU,cA (by omega)]
 rfl
abbrev JS:=Option Nat×(List cS×List Bool×Int×List cS)
def yp(n:aq):Int×cS->JS->Option (Bool×JS):=zN (fun x s=>js n x s.1 s.2.1 s.2.2.1 s.2.2.2)
variable{p:Nat}
def Xs{α:Type}(p q:List α)(w v:α):(p++w::q).set p.length v=p++v::q:=by
 induction p with
 |nil=>rfl
 |cons x t ih=>simp [ih]
def RU{α:Type}(p q:List α)(w:α):di (p++w::q) (p.length:Int)=some w:=by
 rw [OH];simp
def HO{n:aq}(he:MX n.Cond){ka kb:List Int}(hk:(gh n.Cond (ka++kb)).2=0)(hka:ka.length<=16)(hkb:kb.length<=16)(nx:Nat->JS->Option JS){x:cS}(V:RK ka x): ∀(bs xs:List cS) (pre:List Bool) (m:Bool) (post:List Bool),rG kb bs->xs.length+bs.length<=1000000->
  if zi n.Cond bs x then∃q:List cS×List Bool,il (yp n) nx pre.length x bs (none,(xs,pre++m::post,0,[]))=some (some 0,(q.1,q.2,140,[]))
  else il (yp n) nx pre.length x bs (none,(xs,pre++m::post,0,[]))=nx (pre.length+1) (none,(xs++nu n.Cond bs x,pre++(m||wS n.Cond bs x)::post,0,[]))
 |[],xs,pre,m,post,_,_=>by
  have:zi n.Cond [] x=false:=rfl
  rw [this,aS (by decide)]
  unfold il
  simp [nu,wS]
 |y::t,xs,pre,m,post,M,hl=>by
  rw [io]at hl
  have hy:=M y (mp ..)
  have Y:rG kb t:=fun z hz=>M z (lT _ hz)
  have hxy:RK (ka++kb) (x++y):=V.app hy
  have hlx:=V.len
  have hly:=hy.len
  have e1:zi n.Cond (y::t) x=(tq n.Cond (x++y)||zi n.Cond t x):=rfl
  have e2:nu n.Cond (y::t) x=(if ox n.Cond (x++y)=true then(x++y)::nu n.Cond t x else nu n.Cond t x):=by
   unfold nu
   rw [xU,JK]
  have e3:wS n.Cond (y::t) x=(ox n.Cond (x++y)||wS n.Cond t x):=rfl
  have step:il (yp n) nx pre.length x (y::t) (none,(xs,pre++m::post,0,[]))=(js n ((pre.length:Int),x++y) xs (pre++m::post) 0 []).bind fun r=>if(!r.1.isNone)=true then some r else il (yp n) nx pre.length x t r:=by
   conv=>lhs;unfold il
   rw [I7 x y (by omega) (by omega),bt]
   unfold yp zN
   simp only []
   cases js n ((pre.length:Int),x++y) xs (pre++m::post) 0 []with
   |none=>rfl
   |some r=>rfl
  have hbody:js n ((pre.length:Int),x++y) xs (pre++m::post) 0 []=some (if tq n.Cond (x++y)then(some 0,(xs,pre++m::post,140,[]))else if ox n.Cond (x++y)then(none,(xs++[x++y],pre++true::post,0,[]))else(none,(xs,pre++m::post,0,[]))):=by
   unfold js
   rw [OK he hk hxy,bt]
   by_cases hf:tq n.Cond (x++y)=true
   ·rw [hf];rfl
   ·rw [p8.2 hf]
    simp only [iq,fU,B5]
    by_cases hh:ox n.Cond (x++y)=true
    ·rw [br hh,br hh,RU,bt,BH,Xs,bt,cA (by simp;omega),bt]
    ·rw [aS hh,aS hh]
  rw [e1,step,hbody,bt]
  by_cases hf:tq n.Cond (x++y)=true
  ·rw [hf]
   simp only [gx,Bool.true_or]
   exact⟨(xs,pre++m::post),rfl⟩
  ·rw [p8.2 hf]
   simp only [iq,fU,xL]
   by_cases hh:ox n.Cond (x++y)=true
   ·rw [br hh]
    simp only [Option.isNone_none,p6,iq,fU]
    have ih:=HO he hk hka hkb nx V t (xs++[x++y]) pre true post Y (by simp only [ju,vl];omega)
    rw [e2,br hh,e3,hh]
    simpa using ih
   ·rw [aS hh]
    simp only [Option.isNone_none,p6,iq,fU]
    have ih:=HO he hk hka hkb nx V t xs pre m post Y (by omega)
    rw [e2,aS hh,e3,p8.2 hh,xL]
    exact ih
def N6{n:aq}(he:MX n.Cond){ka kb:List Int}(hk:(gh n.Cond (ka++kb)).2=0)(hka:ka.length<=16)(hkb:kb.length<=16){b:List cS}(M:rG kb b): ∀(a xs:List cS) (pre:List Bool),rG ka a->xs.length+a.length*b.length+b.length<=1000000->
  if a.any (zi n.Cond b)then∃q:List cS×List Bool,fk b (yp n) a pre.length (none,(xs,pre++List.replicate a.length false,0,[]))=some (some 0,(q.1,q.2,140,[]))
  else fk b (yp n) a pre.length (none,(xs,pre++List.replicate a.length false,0,[]))=some (none,(xs++a.flatMap (nu n.Cond b),pre++a.map (wS n.Cond b),0,[]))
 |[],xs,pre,_,_=>by
  rw [List.any_nil,aS (by decide)]
  unfold fk
  simp
 |x::t,xs,pre,ha,hl=>by
  rw [io,wO,Nat.one_mul]at hl
  have V:=ha x (mp ..)
  have Y:rG ka t:=fun z hz=>ha z (lT _ hz)
  have K:=HO he hk hka hkb (fk b (yp n) t) V b xs pre false (List.replicate t.length false) M (by omega)
  have er:List.replicate (x::t).length false=false::List.replicate t.length false:=rfl
  rw [er,wU]
  unfold fk
  by_cases hf:zi n.Cond b x=true
  ·rw [hf]at K ⊢
   simpa using K
  ·rw [p8.2 hf]at K ⊢
   simp only [iq,fU,xL]at K ⊢
   have ih:=N6 he hk hka hkb M t (xs++nu n.Cond b x) (pre++[wS n.Cond b x]) Y (by have:=Bq n.Cond b x;simp only [ju];omega)
   rw [K]
   simp only [ju,vl,ji,Cv]at ih ⊢
   rw [GT,xU]
   exact ih
def RS{ob:fy}{n:aq}{w:Nat}(hw:w<=16)(hB:di ob.width n.B=some (w:Int))(e:cy)(b:List cS)(st:JS)(u:Unit): ∀(t:List cS) (pre:List Bool) (out:List cS),(∀x∈t,x.length<=16)->st.2.2.1=pre++t.map (wS e b)->out.length+t.length<=1000000->jr ob n (st,u) t pre.length out=some (out++t.flatMap (yo e b w n.Left),0)
 |[],pre,out,_,_,_=>by unfold jr;simp
 |x::t,pre,out,V,hs,hl=>by
  rw [io]at hl
  unfold jr
  have hxl:=V x (mp ..)
  have Y:=fun z hz=>V z (lT x hz)
  rw [xU]at hs
  have hi:di st.2.2.1 (pre.length:Int)=some (wS e b x):=by rw [hs,RU]
  have ih:=RS hw hB e b st u t (pre++[wS e b x])
  rw [ju,vl]at ih
  have hs2:st.2.2.1=pre++[wS e b x]++t.map (wS e b):=by rw [hs];simp
  rw [GT]
  have ec:(if n.Left=true then((di st.2.2.1 (pre.length:Int)).bind fun e4=>some (!e4))else some false)=some (n.Left&& !wS e b x):=by
   rw [hi]
   cases n.Left<;>rfl
  show((if n.Left=true then((di st.2.2.1 (pre.length:Int)).bind fun e4=>some (!e4))else some false).bind fun q=>_)=_
  rw [ec,bt]
  unfold yo
  by_cases hc:(n.Left&& !wS e b x)=true
  ·rw [br hc,br hc,hB,bt]
   have hz:qe (w:Int) (⟨0,0,0,[]⟩:ac)=some (List.replicate w zV):=by
    unfold qe
    rw [br (by omega)]
    rfl
   rw [hz,bt,I7 x _ (by omega) (by simp;omega),bt,cA (by simp;omega),bt,ih _ Y hs2 (by simp only [ju,vl];omega),ji]
   rfl
  ·rw [aS hc,aS hc,ih _ Y hs2 (by omega),lU]
   rfl
def yn(n:aq)(a b:List cS)(w:Nat):List cS×Int:=
 if 40000<a.length*b.length then([],3)else if a.any (zi n.Cond b)then([],140)else(a.flatMap (nu n.Cond b)++a.flatMap (yo n.Cond b w n.Left),0)
structure KW(n:aq)(ka kb:List Int):Prop where
 cond:MX n.Cond
 kind:(gh n.Cond (ka++kb)).2=0
 ka:ka.length<=16
 kb:kb.length<=16
def Oo{q:Nat}(hp:p<=8000)(hq:q<=8000):decide ((40000:Int)<(IntKind.i64.wrap ((p:Int)*(q:Int))))=decide (40000<p*q):=by
 have h:p*q<=8000*8000:=zP hp hq
 rw [<-Ag,ot (by omega) (by omega),Fv]
 omega
def XQ{ka kb:List Int}(h:KW n ka kb){a b:List cS}(ha:rG ka a)(M:rG kb b)(hal:a.length<=8000)(hbl:b.length<=8000)(ob:fy)(hA:di ob.rows n.A=some a)(hB:di ob.rows n.B=some b)(hW:di ob.width n.B=some (kb.length:Int)):lD ob n=some (yn n a b kb.length):=by
 unfold lD yn
 rw [hA,hB,bt,bt,Oo hal hbl]
 by_cases hm:40000<a.length*b.length
 ·rw [br (by simpa using hm),br hm]
 ·rw [aS (by simpa using hm),aS hm]
  have hz:qe (a.length:Int) false=some (List.replicate a.length false):=by
   unfold qe
   rw [br (by omega)]
   rfl
  have hp:zu a b=some (fun _=>oc a b):=rfl
  rw [hz,bt,hp,bt]
  have hit:(itU (fun(Sg:Type)=>oc (Sg:=Sg) a b)) JS (yp n) (none,(([]:List cS),List.replicate a.length false,(0:Int),[]))=(fk b (yp n) a 0 (none,(([]:List cS),List.replicate a.length false,(0:Int),[]))).map fun r=>(r,()):=rfl
  have hp1:=N6 h.cond h.kind h.ka h.kb M a [] [] ha (by simp only [oo];omega)
  show((itU (fun(Sg:Type)=>oc (Sg:=Sg) a b)) JS (yp n) (none,(([]:List cS),List.replicate a.length false,(0:Int),[]))).bind _=_
  rw [hit]
  by_cases hf:a.any (zi n.Cond b)=true
  ·rw [br hf]at hp1 ⊢
   obtain⟨q,hq⟩:=hp1
   have hq2:fk b (yp n) a 0 (none,(([]:List cS),List.replicate a.length false,(0:Int),[]))=some (some 0,(q.1,q.2,140,[])):=hq
   rw [hq2]
   rfl
  ·rw [aS hf]at hp1 ⊢
   have hq2:fk b (yp n) a 0 (none,(([]:List cS),List.replicate a.length false,(0:Int),[]))=some (none,(a.flatMap (nu n.Cond b),a.map (wS n.Cond b),0,[])):=hp1
   rw [hq2]
   have hlen:=xk (nu n.Cond b) b.length (Bq n.Cond b) a
   have:=RS (ob:=ob) (n:=n) h.kb hW n.Cond b (none,(a.flatMap (nu n.Cond b),a.map (wS n.Cond b),0,[])) () a [] (a.flatMap (nu n.Cond b)) (fun x V=>by rw [(ha x V).len];exact h.ka) rfl (by omega)
   exact this
def Ol(n:Nat)(hn:n<=1000): ∀(fu i:Nat) (out:cS),i<=n->n<i+fu->out.length=i->qj (n:Int) fu out (i:Int)=some (out++List.replicate (n-i) zV)
 |0,i,out,I,K,_=>by omega
 |fu+1,i,out,I,K,ho=>by
  unfold qj
  by_cases hi:i<n
  ·have hw:IntKind.i64.wrap ((i:Int)+1)=((i+1:Nat):Int):=by rw [ot (by omega) (by omega)];omega
   rw [br (by rw [j9];omega),cA (by simp;omega),bt,hw,Ol n hn fu (i+1) _ (by omega) (by omega) (by simp [ho]),ji,Cv]
   have:n-i=(n-(i+1))+1:=by omega
   rw [this,List.replicate_succ]
   rfl
  ·have:n-i=0:=by omega
   rw [aS (by rw [j9];omega),this]
   simp
def Vj(n:Nat)(hn:n<=1000):uH (n:Int)=some (List.replicate n zV):=by
 unfold uH
 have:=Ol n hn fm 0 [] (by omega) (by have:=ku (n:=2000) (by omega);omega) rfl
 simpa using this
def Av{e:cy}(he:MX e){ka kb:List Int}(hk:(gh e (ka++kb)).2=0)(hka:ka.length<=16)(hkb:kb.length<=16)(w:Nat)(hw:w<=16)(left:Bool)(nx:List cS->Int->Option (List cS×Int)){x:cS}(V:RK ka x): ∀(bs out:List cS) (f:Int) (found:Bool),rG kb bs->out.length+bs.length<=1000000->
  kS (w:Int) e left nx x bs out f found=nx ((out++nu e bs x)++if left&& !(found||wS e bs x)then [x++List.replicate w zV]else []) (if zi e bs x then 140 else f)
 |[],out,f,found,_,hl=>by
  have e1:zi e [] x=false:=rfl
  have e2:wS e [] x=false:=rfl
  have e3:nu e [] x=[]:=rfl
  rw [e1,e2,e3,Bool.or_false,tA]
  unfold kS
  have hlx:=V.len
  by_cases hc:(left&& !found)=true
  ·rw [br hc,br hc,Vj w (by omega),bt,IL x _ (by omega) (by simp;omega),bt,cA (by simp at hl ⊢;omega),bt]
   rfl
  ·rw [aS hc,aS hc,tA]
   rfl
 |y::t,out,f,found,M,hl=>by
  rw [io]at hl
  have hy:=M y (mp ..)
  have Y:rG kb t:=fun z hz=>M z (lT _ hz)
  have hxy:RK (ka++kb) (x++y):=V.app hy
  have hlx:=V.len
  have hly:=hy.len
  have e1:zi e (y::t) x=(tq e (x++y)||zi e t x):=rfl
  have e2:nu e (y::t) x=(if ox e (x++y)=true then(x++y)::nu e t x else nu e t x):=by
   unfold nu
   rw [xU,JK]
  have e3:wS e (y::t) x=(ox e (x++y)||wS e t x):=rfl
  unfold kS
  rw [IL x y (by omega) (by omega),bt,ER he hk hxy,bt]
  have hk1: ∀f1:Int,ra (kS (w:Int) e left nx x t) out found (x++y) (T5 e (x++y),if tq e (x++y)then 140 else 0) f1=nx ((out++nu e (y::t) x)++if left&& !(found||wS e (y::t) x)then [x++List.replicate w zV]else []) (if zi e t x then 140 else f1):=by
   intro f1
   unfold ra
   rw [FN,bt]
   show(if ox e (x++y)=true then _ else _)=_
   rw [e2,e3]
   by_cases hh:ox e (x++y)=true
   ·rw [br hh,br hh,cA (by simp;omega),bt,Av he hk hka hkb w hw left nx V t _ f1 true Y (by simp only [ju,vl];omega),hh]
    simp
   ·rw [aS hh,aS hh,Av he hk hka hkb w hw left nx V t out f1 found Y (by omega),p8.2 hh]
    simp
  rw [e1]
  by_cases hf:tq e (x++y)=true
  ·rw [br (by rw [hf];rfl),hk1,hf];simp
  ·rw [aS (by rw [p8.2 hf];show¬((0:Int) !=0)=true;decide),hk1,p8.2 hf];simp
def FM{e:cy}(he:MX e){ka kb:List Int}(hk:(gh e (ka++kb)).2=0)(hka:ka.length<=16)(hkb:kb.length<=16)(w:Nat)(hw:w<=16)(left:Bool){b:List cS}(M:rG kb b): ∀(a out:List cS) (f:Int),rG ka a->out.length+a.length*b.length+a.length+b.length<=1000000->
  mf b (w:Int) e left a out f=some (out++a.flatMap (fun x=>nu e b x++yo e b w left x),if a.any (zi e b)then 140 else f)
 |[],out,f,_,_=>by unfold mf;simp
 |x::t,out,f,ha,hl=>by
  rw [io,wO,Nat.one_mul]at hl
  have V:=ha x (mp ..)
  have Y:rG ka t:=fun z hz=>ha z (lT _ hz)
  unfold mf
  have l1:=Bq e b x
  have l2:=Kp e b w left x
  rw [Av he hk hka hkb w hw left _ V b out f false M (by omega)]
  have ej:(if(left&& !(false||wS e b x))=true then [x++List.replicate w zV]else [])=yo e b w left x:=by unfold yo;rw [xL]
  rw [ej,FM he hk hka hkb w hw left M t _ _ Y (by simp only [ju];omega),wU,GT]
  by_cases hf:zi e b x=true
  ·rw [hf];simp
  ·rw [p8.2 hf];simp
def OP{α β:Type}(f g:α->List β): ∀l:List α,(l.flatMap fun x=>f x++g x).Perm (l.flatMap f++l.flatMap g)
 |[]=> .refl _
 |x::t=>by
  rw [GT,GT,GT]
  have ih:=OP f g t
  refine(ih.append_left (f x++g x)).trans ?_
  simp only [ji]
  refine List.Perm.append_left _ ?_
  rw [<-ji,<-ji]
  exact List.perm_append_comm.append_right _
def NU{ka kb:List Int}(h:KW n ka kb){a b:List cS}(ha:rG ka a)(M:rG kb b)(hal:a.length<=8000)(hbl:b.length<=8000): ∃out,y9 a b (kb.length:Int) n.Cond n.Left=some (out,(yn n a b kb.length).2)/\((yn n a b kb.length).2=0->out.Perm (yn n a b kb.length).1):=by
 unfold y9 yn
 rw [Oo hal hbl]
 by_cases hm:40000<a.length*b.length
 ·rw [br (by simpa using hm),br hm]
  exact⟨[],rfl,fun h=>by cases h⟩
 ·rw [aS (by simpa using hm),aS hm,FM h.cond h.kind h.ka h.kb kb.length h.kb n.Left M a [] 0 ha (by simp only [oo];omega)]
  refine⟨a.flatMap (fun x=>nu n.Cond b x++yo n.Cond b kb.length n.Left x),?_,?_⟩
  ·by_cases hf:a.any (zi n.Cond b)=true
   ·rw [br hf,br hf];rfl
   ·rw [aS hf,aS hf];rfl
  ·intro h0
   by_cases hf:a.any (zi n.Cond b)=true
   ·rw [br hf]at h0;cases h0
   ·rw [aS hf]
    exact OP _ _ a
def XT{ka kb:List Int}{a b:List cS}(ha:rG ka a)(M:rG kb b):rG (ka++kb) (a.flatMap (nu n.Cond b)):=by
 intro r hr
 obtain⟨x,V,hr⟩:=List.mem_flatMap.1 hr
 unfold nu at hr
 obtain⟨y,hy,e⟩:=xT.1 (JG.1 hr).1
 rw [<-e]
 exact(ha x V).app (M y hy)
def XU{ka kb:List Int}{a b:List cS}(ha:rG ka a):rG (ka++kb) (a.flatMap (yo n.Cond b kb.length n.Left)):=by
 intro r hr
 obtain⟨x,V,hr⟩:=List.mem_flatMap.1 hr
 unfold yo at hr
 split at hr
 ·rw [EE.1 hr]
  exact(ha x V).app (Pj kb)
 ·cases hr
def G6(h:e.Nodes.any arB=true):Nr e=true:=by
 unfold Nr
 rw [h,B2]
 cases hn:e.Nodes with
 |nil=>rw [hn]at h;cases h
 |cons x t=>rfl
def XR{ka kb:List Int}(h:KW n ka kb){a b:List cS}(ha:rG ka a)(M:rG kb b):rG (ka++kb) (yn n a b kb.length).1/\((yn n a b kb.length).2=0\/yn n a b kb.length=([],3)\/yn n a b kb.length=([],140)/\Nr n.Cond=true):=by
 unfold yn
 by_cases hm:40000<a.length*b.length
 ·rw [br hm]
  exact⟨(fun r hr=>by cases hr),.inr (.inl rfl)⟩
 ·rw [aS hm]
  by_cases hf:a.any (zi n.Cond b)=true
  ·rw [br hf]
   refine⟨(fun r hr=>by cases hr),.inr (.inr ⟨rfl,?_⟩)⟩
   obtain⟨x,V,hq⟩:=zR.1 hf
   unfold zi at hq
   obtain⟨y,hy,hq⟩:=zR.1 hq
   rcases W0 h.cond h.kind ((ha x V).app (M y hy))with q|q
   ·rw [q.2.1]at hq;cases hq
   ·exact G6 q.2.2.2
  ·rw [aS hf]
   refine⟨fun r hr=>?_,.inl rfl⟩
   rcases BG.1 hr with q|q
   ·exact XT ha M r q
   ·exact XU ha r q

variable{j:Nat}{sz:Nat->Nat}
def Ql(hS:o4 l)(hr:nh l=true)(h2:I0 l sz ks)(hp:p<l.Nodes.length): ∃d,wv l (p:Int)=some (d,0)/\uO d=some (ks p,0):=by
 obtain⟨_,_,ob,j,r3,r4⟩:=sS hS
 obtain⟨hL,hj⟩:=r4 hr
 rw [hr]at r3
 have hle:=hL.le
 have hg:Gr l (z6 ob.first) (PE ob.kinds):=fun j hj=>Im hL.inv hle hj
 obtain⟨N0,hf⟩:=hL.inv.at hp
 have I:=N0.pos
 have K:=N0.le
 have M:((p+1-z6 ob.first p:Nat):Int)=(p:Int)+1-(z6 ob.first p:Int):=by omega
 have hfi:di ob.first (p:Int)=some ((p+1-z6 ob.first p:Nat):Int):=by rw [cO,hf,M]
 have hpart:wv l (p:Int)=some (CO l (p+1-z6 ob.first p) p,0):=by
  unfold wv
  rw [r3]
  simp only [bt,p6,iq,fU]
  rw [aS (by simp;omega),hfi]
  simp only [bt]
  rw [Q5 hS hle hp (by omega) ((l.Nodes.take (p+1)).drop (p+1-z6 ob.first p)) (p+1-z6 ob.first p) fm _ rfl (by simp;omega) (wy (by simp;omega)) (by simp)]
  rfl
 refine⟨_,hpart,?_⟩
 have hpr:=Qk hg hle hp K I
 have hps:=LI hS (p+1-z6 ob.first p) p
 obtain⟨sz',ks',K'⟩:=DU hps hpr
 have hk:=(Ow hps K' (HN hg hle hp K)).1
 have hlen:=ze (l:=l) (e:=p+1-z6 ob.first p) hp
 rw [K'.kinds,<-hk,hlen]
 have hsame:=abl (l:=l) (d:=l) (e:=0) (m:=l.Nodes.length) h2.all hg (fa _) (by omega) (by omega) (by omega) (fun j hj n hn=>by
  obtain⟨m,F⟩:=h2.all j hj
  have hm:n=m:=by rw [F.node]at hn;injection hn with hn;exact hn.symm
  subst hm
  rw [Ab,Ko h2 F hj]
  exact F.node) p hp
 have e:p+1-z6 ob.first p+(p+1-(p+1-z6 ob.first p)-1)=p:=by omega
 simp only [e]
 have:=hsame.2
 rw [Ab]at this
 rw [this]
structure IZ(n:aq):Prop where
 small:kO n
 cond:MX n.Cond
 items: ∀e∈n.Items,MX e
 args: ∀g∈n.Aggs,MX g.Arg
def wg(base:dg)(n:aq):List cS:=(base.Tables[n.Table.toNat]?).getD []
def uM(n:aq)(base:dg)(a b:List cS)(w:Nat):List cS×Int:=
 if n.Op=1 then(wg base n,0)
 else if n.Op=2 then yn n a b w
 else if n.Op=3 then(if a.any (tq n.Cond)then([],140)else(a.filter (ox n.Cond),0))
 else if n.Op=4 then t8 n a
 else if n.Op=5 then(if a.any (AQ n.Items)then([],140)else(a.map (yh n.Items),0))
 else if n.Op=6 then(qT (rO a),0)
 else if n.Op=7 then(a++b,0)
 else(El n.Limit (u9 (vj n.Order) a),0)
def Ii(n:aq)(q:List cS×Int):List cS×Int:=if q.2≠0 then([],q.2)else if 8000<q.1.length then([],3)else(if n.Op=8 then q.1 else rO q.1,0)
def wE(n:aq)(base:dg)(a b:List cS)(w:Nat):List cS×Int:=Ii n (uM n base a b w)
def Wa{limit:Int}{l:List cS}(h:r∈El limit l):r∈l:=by
 unfold El at h
 split at h
 ·exact List.mem_of_mem_take h
 ·exact h
def O6(limit:Int)(l:List cS):(El limit l).length<=l.length:=by
 unfold El
 split
 ·rw [B4];omega
 ·exact fa _
def Lt(base:dg)(n:aq)(k:List Int):Prop:=n.Op=1->n.Table.toNat<base.Tables.length/\rG k (wg base n)/\(wg base n).length<=12
def PO(h:e∈n.Items)(hu:Nr e=true):Lk n=true:=by
 unfold Lk
 rw [zR.2 ⟨e,h,hu⟩]
 simp
variable{base:dg}
def LX{ka kb k:List Int}{a b:List cS}(hn:IZ n)(hop:HR n.Op=true)(hk:bX n ka kb=some (k,true))(hka:ka.length<=16)(hkb:kb.length<=16)(hsc:Lt base n k)(ha:rG ka a)(M:rG kb b)(hal:a.length<=8000):
  rG k (uM n base a b kb.length).1/\((uM n base a b kb.length).2=0\/(uM n base a b kb.length).2=3\/((uM n base a b kb.length).2=140/\Lk n=true)):=by
 unfold uM
 rcases qJ hop with o|o|o|o|o|o|o|o
 ·rw [br o]
  exact⟨(hsc o).2.1,.inl rfl⟩
 ·rw [aS (by omega),br o]
  obtain⟨e,Y⟩:=LZ o hk
  subst e
  have hj:KW n ka kb:=⟨hn.cond,vM Y,hka,hkb⟩
  obtain⟨p1,p2⟩:=XR hj ha M
  refine⟨p1,?_⟩
  rcases p2 with q|q|q
  ·exact .inl q
  ·rw [q];exact .inr (.inl rfl)
  ·rw [q.1];exact .inr (.inr ⟨rfl,by unfold Lk;rw [q.2];rfl⟩)
 ·rw [aS (by omega),aS (by omega),br o]
  obtain⟨e,Y⟩:=EZ o hk
  subst e
  by_cases hf:a.any (tq n.Cond)=true
  ·rw [br hf]
   refine⟨(fun r hr=>by cases hr),.inr (.inr ⟨rfl,?_⟩)⟩
   obtain⟨r,hr,hq⟩:=zR.1 hf
   rcases W0 hn.cond (vM Y) (ha r hr)with q|q
   ·rw [q.2.1]at hq;cases hq
   ·unfold Lk;rw [G6 q.2.2.2];rfl
  ·rw [aS hf]
   exact⟨fun r hr=>ha r (JG.1 hr).1,.inl rfl⟩
 ·rw [aS (by omega),aS (by omega),aS (by omega),br o]
  obtain⟨p1,p2,p3,p4⟩:=H0 hn.small o hk
  subst p3
  have H:JD n ka:=⟨p1,fun g H=>⟨hn.args g H,p2 g H⟩,hka,by omega,hn.small.aggs⟩
  obtain⟨q1,_,q3⟩:=VD H ha hal
  refine⟨q1,?_⟩
  rcases q3 with q|q
  ·exact .inl q
  ·rw [q.1];exact .inr (.inr ⟨rfl,by unfold Lk;rw [q.2];simp⟩)
 ·rw [aS (by omega),aS (by omega),aS (by omega),aS (by omega),br o]
  obtain⟨p1,p2⟩:=CS hn.small o hk
  subst p2
  by_cases hf:a.any (AQ n.Items)=true
  ·rw [br hf]
   refine⟨(fun r hr=>by cases hr),.inr (.inr ⟨rfl,?_⟩)⟩
   obtain⟨r,hr,hq⟩:=zR.1 hf
   unfold AQ at hq
   obtain⟨e,he,hq⟩:=zR.1 hq
   rcases W0 (hn.items e he) (p1 e he) (ha r hr)with q|q
   ·rw [q.2.1]at hq;cases hq
   ·exact PO he (G6 q.2.2.2)
  ·rw [aS hf]
   refine⟨?_,.inl rfl⟩
   intro x V
   obtain⟨r,hr,e⟩:=xT.1 V
   rw [<-e]
   refine RK.map _ _ _ fun e he=>?_
   rcases W0 (hn.items e he) (p1 e he) (ha r hr)with q|q
   ·exact q.2.2
   ·rw [q.2.2.1];exact⟨.z,.inr rfl⟩
 ·rw [aS (by omega),aS (by omega),aS (by omega),aS (by omega),aS (by omega),br o]
  have e:=On o hk
  subst e
  exact⟨fun r hr=>ha r ((lJ fe a).mem_iff.1 ((yk _ _).1 hr)),.inl rfl⟩
 ·rw [aS (by omega),aS (by omega),aS (by omega),aS (by omega),aS (by omega),aS (by omega),br o]
  obtain⟨p1,p2,p3⟩:=Vl (by omega) o hk
  refine⟨?_,.inl rfl⟩
  intro r hr
  rcases BG.1 hr with q|q
  ·refine(ha r q).as p2 fun j x z I K=>?_
   have hj:j<kb.length:=by
    have:=pP.1 I
    obtain⟨h,_⟩:=this
    omega
   exact(p3 j x kb[j] z I (p5 hj) K).1
  ·refine(M r q).as (by omega) fun j y z I K=>?_
   have hj:j<ka.length:=by
    have:=pP.1 I
    obtain⟨h,_⟩:=this
    omega
   exact(p3 j ka[j] y z (p5 hj) I K).2
 ·rw [aS (by omega),aS (by omega),aS (by omega),aS (by omega),aS (by omega),aS (by omega),aS (by omega)]
  obtain⟨p1,_⟩:=LY hn.small o hk
  subst p1
  exact⟨fun r hr=>ha r ((lJ _ a).mem_iff.1 (Wa hr)),.inl rfl⟩
def MK{ka kb k:List Int}{a b:List cS}(hn:IZ n)(hop:HR n.Op=true)(hk:bX n ka kb=some (k,true))(hka:ka.length<=16)(hkb:kb.length<=16)(hsc:Lt base n k)(ha:rG ka a)(M:rG kb b)(hal:a.length<=8000):
  rG k (wE n base a b kb.length).1/\(wE n base a b kb.length).1.length<=8000/\((wE n base a b kb.length).2=0\/wE n base a b kb.length=([],3)\/(wE n base a b kb.length=([],140)/\Lk n=true)):=by
 obtain⟨p1,p2⟩:=LX hn hop hk hka hkb hsc ha M hal
 unfold wE Ii
 by_cases h0:(uM n base a b kb.length).2=0
 ·rw [aS (by simpa using h0)]
  by_cases hl:8000<(uM n base a b kb.length).1.length
  ·rw [br hl]
   exact⟨(fun r hr=>by cases hr),by simp,.inr (.inl rfl)⟩
  ·rw [aS hl]
   by_cases h8:n.Op=8
   ·rw [br h8]
    exact⟨p1,by show(uM n base a b kb.length).1.length<=8000;omega,.inl rfl⟩
   ·rw [aS h8]
    exact⟨p1.perm (lJ _ _).symm,by show(rO _).length<=8000;rw [um];omega,.inl rfl⟩
 ·rw [br h0]
  refine⟨(fun r hr=>by cases hr),by simp,?_⟩
  rcases p2 with q|q|q
  ·exact absurd q h0
  ·rw [q];exact .inr (.inl rfl)
  ·rw [q.1];exact .inr (.inr ⟨rfl,q.2⟩)

def uf{α:Type}(l:List (List α))(i:Int):List α:=if i<0 then []else(l[i.toNat]?).getD []
def wdt(ks:Nat->List Int)(i:Int):Nat:=(if i<0 then []else ks i.toNat).length
def yV(base:dg)(ks:Nat->List Int):List aq->List (List cS)->List (List cS)×Int
 |[],rows=>(rows,0)
 |n::t,rows=>if(wE n base (uf rows n.A) (uf rows n.B) (wdt ks n.B)).2≠0 then([],(wE n base (uf rows n.A) (uf rows n.B) (wdt ks n.B)).2)else yV base ks t (rows++[(wE n base (uf rows n.A) (uf rows n.B) (wdt ks n.B)).1])
def H7(rows:List (List cS)):List cS:=(rows[rows.length-1]?).getD []
def Ix(r:List (List cS)×Int):List cS×Int:=if r.2≠0 then([],r.2)else(H7 r.1,0)
def DA(l:cC)(base:dg)(ks:Nat->List Int):List cS×Int:=Ix (yV base ks l.Nodes [])
structure I2(ks:Nat->List Int)(rows:List (List cS))(i:Nat):Prop where
 len:rows.length=i
 ok: ∀j,j<i->rG (ks j) ((rows[j]?).getD [])/\((rows[j]?).getD []).length<=8000
def GD{i:Int}(h:0<=i)(K:i<(rows.length:Int)):di rows i=some (uf rows i):=by
 obtain⟨k,hk⟩:=GX h
 subst hk
 have hk:k<rows.length:=by omega
 unfold uf
 rw [cO,aS (by omega)]
 simp [hk]
def I2.at(h:I2 ks rows i){x:Int}(V:x= -1\/0<=x/\x<(i:Int)):rG (if x<0 then []else ks x.toNat) (uf rows x)/\(uf rows x).length<=8000:=by
 unfold uf
 rcases V with q|q
 ·rw [br (by omega),br (by omega)]
  exact⟨(fun r hr=>by cases hr),by simp⟩
 ·rw [aS (by omega),aS (by omega)]
  exact h.ok x.toNat (by omega)
structure A5(l:cC)(base:dg)(sz:Nat->Nat)(ks:Nat->List Int):Prop where
 known:I0 l sz ks
 right:nh l=true
 nodes: ∀n∈l.Nodes,IZ n
 scan: ∀(j:Nat) (n:aq),di l.Nodes (j:Int)=some n->Lt base n (ks j)
def A5.small(ak:A5 l base sz ks):o4 l:=fun n hn=>(ak.nodes n hn).small
def Tv(ak:A5 l base sz ks)(hp:p<l.Nodes.length):mX l (p:Int)=some (ks p,true):=by
 have h2:=ak.known
 obtain⟨_,_,ob,j,r3,r4⟩:=sS ak.small
 obtain⟨hL,hj⟩:=r4 ak.right
 have hle:=hL.le
 have hg:Gr l (z6 ob.first) (PE ob.kinds):=fun j hj=>Im hL.inv hle hj
 obtain⟨N0,hf⟩:=hL.inv.at hp
 have hsame:=abl (l:=l) (d:=l) (e:=0) (m:=l.Nodes.length) h2.all hg (fa _) (by omega) (by omega) (by omega) (fun j hj n hn=>by
  obtain⟨m,F⟩:=h2.all j hj
  have hm:n=m:=by rw [F.node]at hn;injection hn with hn;exact hn.symm
  subst hm
  rw [Ab,Ko h2 F hj]
  exact F.node) p hp
 have:=hsame.2
 rw [Ab]at this
 rw [<-this]
 exact N0.kinds fm (wy (by omega))
structure WM(l:cC)(base:dg)(ks:Nat->List Int)(rows:List (List cS))(j:Nat)(n:aq)(ka kb:List Int):Prop where
 g:IZ n
 op:HR n.Op=true
 kinds:bX n ka kb=some (ks j,true)
 k16:(ks j).length<=16
 ka16:ka.length<=16
 kb16:kb.length<=16
 scan:Lt base n (ks j)
 a:rG ka (uf rows n.A)
 al:(uf rows n.A).length<=8000
 b:rG kb (uf rows n.B)
 bl:(uf rows n.B).length<=8000
 w:wdt ks n.B=kb.length
 ia:n.Op≠1->di rows n.A=some (uf rows n.A)
 ib:n.Op=2\/n.Op=7->di rows n.B=some (uf rows n.B)/\0<=n.B/\n.B<(j:Int)
def Vk(ak:A5 l base sz ks)(hj:j<l.Nodes.length)(h1:I2 ks rows j): ∃n,di l.Nodes (j:Int)=some n/\WM l base ks rows j n (if n.A<0 then []else ks n.A.toNat) (if n.B<0 then []else ks n.B.toNat):=by
 obtain⟨n,F⟩:=ak.known.all j hj
 have hmem:n∈l.Nodes:=by
  have:=F.node
  rw [cO]at this
  exact BK this
 obtain⟨pA,pB⟩:=su F
 have h16: ∀x:Int,(x= -1\/0<=x/\x<(j:Int))->(if x<0 then([]:List Int)else ks x.toNat).length<=16:=by
  intro x V
  rcases V with q|q
  ·rw [br (by omega)];simp
  ·rw [aS (by omega)]
   obtain⟨m,Fm⟩:=ak.known.all x.toNat (by omega)
   exact Fm.len
 refine⟨n,F.node,⟨ak.nodes n hmem,F.op,F.kinds,F.len,h16 _ pA,h16 _ pB,ak.scan j n F.node,(h1.at pA).1,(h1.at pA).2,(h1.at pB).1,(h1.at pB).2,rfl,?_,?_⟩⟩
 ·intro I
  have:0<=n.A/\n.A<(rows.length:Int):=by
   rw [h1.len]
   by_cases h27:n.Op=2\/n.Op=7
   ·have:=F.bi h27;omega
   ·have:=F.un I (fun h=>h27 (.inl h)) (fun h=>h27 (.inr h));omega
  exact GD this.1 this.2
 ·intro h27
  have:=F.bi h27
  have M:0<=n.B/\n.B<(j:Int):=by omega
  exact⟨GD M.1 (by rw [h1.len];exact M.2),M⟩
abbrev afR:=fy->aq->Option ((List cS×Int)×fy)
def Vq:List (Int×afR):=eO (eO (eO (eO (eO (eO (eO (eO ([]:List (Int×(fy->aq->Option (((List (List ac))×Int)×fy)))) (1:Int) (fun(mc:fy) (mx:aq)=>(mO mc mx).map fun mr=>(mr,mc))) (2:Int) (fun(mc:fy) (mx:aq)=>(lD mc mx).map fun mr=>(mr,mc))) (3:Int) (fun(mc:fy) (mx:aq)=>(lk mc mx).map fun mr=>(mr,mc))) (4:Int) (fun(mc:fy) (mx:aq)=>(kM mc mx).map fun mr=>(mr,mc))) (5:Int) (fun(mc:fy) (mx:aq)=>(kL mc mx).map fun mr=>(mr,mc))) (6:Int) (fun(mc:fy) (mx:aq)=>(j7 mc mx).map fun mr=>(mr,mc))) (7:Int) (fun(mc:fy) (mx:aq)=>(mu mc mx).map fun mr=>(mr,mc))) (8:Int) (fun(mc:fy) (mx:aq)=>(mv mc mx).map fun mr=>(mr,mc))
def aad{ks:List Int}(hr:RK ks r)(h: ∀o∈n.Order,0<=o.Col/\o.Col<(ks.length:Int)):Qy n.Order r=true:=by
 unfold Qy
 rw [p7]
 intro o ho
 have:=h o ho
 rw [<-hr.len]at this
 simp [this.1,this.2]
def TG{ka kb:List Int}(hb:WM l base ks rows j n ka kb)(ob:fy)(hB:ob.Base=base)(hR:ob.rows=rows)(hW: ∀i:Int,0<=i->i<(j:Int)->di ob.width i=some (wdt ks i:Int)):((rm Vq n.Op).getD fun _ _=>none) ob n=some (uM n base (uf rows n.A) (uf rows n.B) kb.length,ob):=by
 unfold Vq
 rw [Vo]
 have hk:=hb.kinds
 unfold uM
 have hsm:=hb.a.small hb.ka16 hb.al
 rcases qJ hb.op with o|o|o|o|o|o|o|o
 ·rw [br o,br o]
  obtain⟨_,t1,t2⟩:=GA o hk
  obtain⟨s1,s2,s3⟩:=hb.scan o
  show(mO ob n).map _=_
  unfold mO
  have:di base.Tables n.Table=some (wg base n):=by
   unfold wg
   rw [iX n.Table.toNat (by omega),p5 s1]
   rfl
  rw [hB,this]
  rfl
 ·rw [aS (by omega),br o,aS (by omega),br o]
  obtain⟨e,Y⟩:=LZ o hk
  have hj:KW n ka kb:=⟨hb.g.cond,vM Y,hb.ka16,hb.kb16⟩
  obtain⟨b1,b2,b3⟩:=hb.ib (.inl o)
  show(lD ob n).map _=_
  rw [XQ hj hb.a hb.b hb.al hb.bl ob (by rw [hR];exact hb.ia (by omega)) (by rw [hR];exact b1) (by rw [hW n.B b2 b3,hb.w])]
  rfl
 ·rw [aS (by omega),aS (by omega),br o,aS (by omega),aS (by omega),br o]
  obtain⟨e,Y⟩:=EZ o hk
  show(lk ob n).map _=_
  unfold lk
  rw [hR,hb.ia (by omega),bt,E4 hb.g.cond (vM Y) _ [] hb.a (by have:=hb.al;simp only [oo];omega)]
  rfl
 ·rw [aS (by omega),aS (by omega),aS (by omega),br o,aS (by omega),aS (by omega),aS (by omega),br o]
  obtain⟨p1,p2,p3,p4⟩:=H0 hb.g.small o hk
  have H:JD n ka:=⟨p1,fun g H=>⟨hb.g.args g H,p2 g H⟩,hb.ka16,by omega,hb.g.small.aggs⟩
  show(kM ob n).map _=_
  rw [VC H hb.a hb.al ob (by rw [hR];exact hb.ia (by omega))]
  rfl
 ·rw [aS (by omega),aS (by omega),aS (by omega),aS (by omega),br o,aS (by omega),aS (by omega),aS (by omega),aS (by omega),br o]
  obtain⟨p1,p2⟩:=CS hb.g.small o hk
  show(kL ob n).map _=_
  unfold kL
  rw [hR,hb.ia (by omega),bt,RD (fun e he=>⟨hb.g.items e he,p1 e he⟩) (by have:=hb.g.small.items;omega) _ [] hb.a (by have:=hb.al;simp only [oo];omega)]
  rfl
 ·rw [aS (by omega),aS (by omega),aS (by omega),aS (by omega),aS (by omega),br o,aS (by omega),aS (by omega),aS (by omega),aS (by omega),aS (by omega),br o]
  show(j7 ob n).map _=_
  unfold j7
  rw [hR,hb.ia (by omega),bt,Ge hsm,hb.a.allr hb.ka16]
  rfl
 ·rw [aS (by omega),aS (by omega),aS (by omega),aS (by omega),aS (by omega),aS (by omega),br o,aS (by omega),aS (by omega),aS (by omega),aS (by omega),aS (by omega),aS (by omega),br o]
  obtain⟨b1,b2,b3⟩:=hb.ib (.inr o)
  show(mu ob n).map _=_
  unfold mu
  rw [hR,hb.ia (by omega),bt,b1,bt,Rb _ _ hb.al hb.bl]
  rfl
 ·rw [aS (by omega),aS (by omega),aS (by omega),aS (by omega),aS (by omega),aS (by omega),aS (by omega),br o,aS (by omega),aS (by omega),aS (by omega),aS (by omega),aS (by omega),aS (by omega),aS (by omega)]
  obtain⟨p1,p2⟩:=LY hb.g.small o hk
  show(mv ob n).map _=_
  unfold mv
  have ho:Q6 n.Order (uf rows n.A):=⟨fun r hr=>(hb.a r hr).right hb.ka16,fun r hr=>aad (hb.a r hr) p2⟩
  rw [hR,hb.ia (by omega),bt,Fa ho (by have:=hb.al;omega)]
  rfl
def y6(n:aq)(h8:n.Op≠8){p q:List cS×Int}(K:p.2=q.2)(hp:q.2=0->p.1.Perm q.1)(hr:q.2=0-> ∀r∈q.1,r.length<=1000000)(hl:q.2=0->q.1.length<=400000):(if(p.2 !=(0:Int))=true then some (([]:List cS),p.2)else if(decide ((8000:Int)<(p.1.length:Int)))=true then some ([],(3:Int))else(jN p.1 [] (-1)).bind fun r=>some (r,(0:Int)))=some (Ii n q):=by
 unfold Ii
 rw [K]
 by_cases h0:q.2=0
 ·have hpq:=hp h0
  rw [aS (by simp [h0]),hpq.length_eq,aS (c:=q.2≠0) (by simp [h0])]
  by_cases hlen:8000<q.1.length
  ·rw [br (by rw [j9];omega),br hlen]
  ·rw [aS (by rw [j9];omega),aS hlen,aS h8,HC (fun r hm=>hr h0 r (hpq.mem_iff.1 hm)) (by rw [hpq.length_eq];exact hl h0),bt]
   have:rO p.1=rO q.1:=Ny i7 hpq (by rw [hpq.length_eq];have:=hl h0;omega)
   rw [this]
 ·rw [br (by simpa using h0),br h0]
def TY{a b:List cS}{w:Nat}{left:Bool}(h: ¬40000<a.length*b.length)(ha:a.length<=8000):(a.flatMap (nu e b)++a.flatMap (yo e b w left)).length<=400000:=by
 have I:=xk (nu e b) b.length (Bq e b) a
 have K:=xk (yo e b w left) 1 (Kp e b w left) a
 rw [ju]
 omega
def TH{a b:List cS}{w:Nat}(hop:HR n.Op=true)(ha:a.length<=8000)(M:b.length<=8000)(Y:n.Op=1->(wg base n).length<=12):(uM n base a b w).1.length<=400000:=by
 unfold uM
 rcases qJ hop with o|o|o|o|o|o|o|o
 ·rw [br o];have:=Y o;show(wg base n).length<=400000;omega
 ·rw [aS (by omega),br o]
  unfold yn
  by_cases hm:40000<a.length*b.length
  ·rw [br hm];simp
  ·rw [aS hm]
   split
   ·simp
   ·exact TY hm ha
 ·rw [aS (by omega),aS (by omega),br o]
  split
  ·simp
  ·have:=Re (ox n.Cond) a;show(a.filter (ox n.Cond)).length<=400000;omega
 ·rw [aS (by omega),aS (by omega),aS (by omega),br o]
  unfold t8
  split
  ·simp
  ·have:=Mg n.Keys a ha
   show((gP n.Keys a).map (NQ n.Aggs)).length<=400000
   rw [B3];omega
 ·rw [aS (by omega),aS (by omega),aS (by omega),aS (by omega),br o]
  split
  ·simp
  ·show(a.map (yh n.Items)).length<=400000
   rw [B3];omega
 ·rw [aS (by omega),aS (by omega),aS (by omega),aS (by omega),aS (by omega),br o]
  have:=Fe (rO a)
  rw [um]at this
  show(qT (rO a)).length<=400000
  omega
 ·rw [aS (by omega),aS (by omega),aS (by omega),aS (by omega),aS (by omega),aS (by omega),br o]
  show(a++b).length<=400000
  rw [ju];omega
 ·rw [aS (by omega),aS (by omega),aS (by omega),aS (by omega),aS (by omega),aS (by omega),aS (by omega)]
  have:=O6 n.Limit (u9 (vj n.Order) a)
  rw [um]at this
  show(El n.Limit (u9 (vj n.Order) a)).length<=400000
  omega
def U3{ka kb:List Int}(hb:WM l base ks rows j n ka kb):y7 n base (uf rows n.A) (uf rows n.B) (kb.length:Int)=some (wE n base (uf rows n.A) (uf rows n.B) kb.length):=by
 have hk:=hb.kinds
 have hlen:=TH (base:=base) (a:=uf rows n.A) (b:=uf rows n.B) (w:=kb.length) hb.op hb.al hb.bl (fun o=>(hb.scan o).2.2)
 obtain⟨hK,_⟩:=LX (base:=base) hb.g hb.op hk hb.ka16 hb.kb16 hb.scan hb.a hb.b hb.al
 have hrl: ∀r∈(uM n base (uf rows n.A) (uf rows n.B) kb.length).1,r.length<=1000000:=fun r hr=>by rw [(hK r hr).len];have:=hb.k16;omega
 unfold wE
 generalize hq:uM n base (uf rows n.A) (uf rows n.B) kb.length=q at hlen hrl
 unfold uM at hq
 have hsm:=hb.a.small hb.ka16 hb.al
 unfold y7
 rcases qJ hb.op with o|o|o|o|o|o|o|o
 ·rw [br o]at hq
  subst hq
  rw [br (by simpa using o)]
  obtain⟨_,t1,t2⟩:=GA o hk
  obtain⟨s1,s2,s3⟩:=hb.scan o
  have:di base.Tables n.Table=some (wg base n):=by
   unfold wg
   rw [iX n.Table.toNat (by omega),p5 s1]
   rfl
  rw [this,bt]
  exact y6 n (by omega) (p:=(wg base n,0)) rfl (fun _=> .refl _) (fun _=>hrl) (fun _=>hlen)
 ·rw [aS (by omega),br o]at hq
  rw [aS (by rw [o];decide),br (by simpa using o)]
  obtain⟨e,Y⟩:=LZ o hk
  have hj:KW n ka kb:=⟨hb.g.cond,vM Y,hb.ka16,hb.kb16⟩
  obtain⟨out,I,K⟩:=NU hj hb.a hb.b hb.al hb.bl
  rw [hq]at I K
  rw [I,bt]
  exact y6 n (by omega) (p:=(out,q.2)) rfl K (fun _=>hrl) (fun _=>hlen)
 ·rw [aS (by omega),aS (by omega),br o]at hq
  rw [aS (by rw [o];decide),aS (by rw [o];decide),br (by simpa using o)]
  obtain⟨e,Y⟩:=EZ o hk
  unfold za
  rw [xB hb.g.cond (vM Y) _ [] 0 hb.a (by have:=hb.al;simp only [oo];omega),bt]
  refine y6 n (by omega) (p:=(_,_)) ?_ ?_ (fun _=>hrl) (fun _=>hlen)
  ·rw [<-hq];split<;>rfl
  ·intro h0
   rw [<-hq]at h0 ⊢
   by_cases hf:(uf rows n.A).any (tq n.Cond)=true
   ·rw [br hf]at h0;cases h0
   ·show((uf rows n.A).filter (ox n.Cond)).Perm _
    rw [aS hf]
 ·rw [aS (by omega),aS (by omega),aS (by omega),br o]at hq
  rw [aS (by rw [o];decide),aS (by rw [o];decide),aS (by rw [o];decide),br (by simpa using o)]
  obtain⟨p1,p2,p3,p4⟩:=H0 hb.g.small o hk
  have H:JD n ka:=⟨p1,fun g H=>⟨hb.g.args g H,p2 g H⟩,hb.ka16,by omega,hb.g.small.aggs⟩
  obtain⟨out,I,K⟩:=Lz H hb.a hb.al
  rw [hq]at I K
  rw [I,bt]
  exact y6 n (by omega) (p:=(out,q.2)) rfl (fun h=>by rw [K h]) (fun _=>hrl) (fun _=>hlen)
 ·rw [aS (by omega),aS (by omega),aS (by omega),aS (by omega),br o]at hq
  rw [aS (by rw [o];decide),aS (by rw [o];decide),aS (by rw [o];decide),aS (by rw [o];decide),br (by simpa using o)]
  obtain⟨p1,p2⟩:=CS hb.g.small o hk
  unfold xC
  rw [FL (fun e he=>⟨hb.g.items e he,p1 e he⟩) (by have:=hb.g.small.items;omega) _ [] 0 hb.a (by have:=hb.al;simp only [oo];omega),bt]
  refine y6 n (by omega) (p:=(_,_)) ?_ ?_ (fun _=>hrl) (fun _=>hlen)
  ·rw [<-hq];split<;>rfl
  ·intro h0
   rw [<-hq]at h0 ⊢
   by_cases hf:(uf rows n.A).any (AQ n.Items)=true
   ·rw [br hf]at h0;cases h0
   ·show((uf rows n.A).map (yh n.Items)).Perm _
    rw [aS hf]
 ·rw [aS (by omega),aS (by omega),aS (by omega),aS (by omega),aS (by omega),br o]at hq
  rw [aS (by rw [o];decide),aS (by rw [o];decide),aS (by rw [o];decide),aS (by rw [o];decide),aS (by rw [o];decide),br (by simpa using o)]
  rw [xc hsm,bt]
  subst hq
  exact y6 n (by omega) (p:=(qT (rO (uf rows n.A)),0)) rfl (fun _=> .refl _) (fun _=>hrl) (fun _=>hlen)
 ·rw [aS (by omega),aS (by omega),aS (by omega),aS (by omega),aS (by omega),aS (by omega),br o]at hq
  rw [aS (by rw [o];decide),aS (by rw [o];decide),aS (by rw [o];decide),aS (by rw [o];decide),aS (by rw [o];decide),aS (by rw [o];decide),br (by simpa using o)]
  have hal:=hb.al
  have hbl:=hb.bl
  rw [cA (by simp only [oo];omega),bt,lU,cA (by omega),bt]
  subst hq
  exact y6 n (by omega) (p:=(uf rows n.A++uf rows n.B,0)) rfl (fun _=> .refl _) (fun _=>hrl) (fun _=>hlen)
 ·rw [aS (by omega),aS (by omega),aS (by omega),aS (by omega),aS (by omega),aS (by omega),aS (by omega)]at hq
  rw [aS (by rw [o];decide),aS (by rw [o];decide),aS (by rw [o];decide),aS (by rw [o];decide),aS (by rw [o];decide),aS (by rw [o];decide),aS (by rw [o];decide),br (by simpa using o)]
  obtain⟨p1,p2⟩:=LY hb.g.small o hk
  rw [Cd (fun r hr=>⟨aad (hb.a r hr) p2,by rw [(hb.a r hr).len];have:=hb.ka16;omega⟩) (by have:=hb.al;omega),bt]
  subst hq
  unfold Ii
  have hc:=O6 n.Limit (u9 (vj n.Order) (uf rows n.A))
  rw [um]at hc
  have:=hb.al
  rw [aS (by simp),aS (by show¬8000<(El n.Limit (u9 (vj n.Order) (uf rows n.A))).length;omega),br o]
def I2.next(h:I2 ks rows i){r:List cS}(hr:rG (ks i) r)(hl:r.length<=8000):I2 ks (rows++[r]) (i+1):=by
 have hlen:=h.len
 refine⟨by simp [hlen],fun j hj=>?_⟩
 by_cases hji:j<i
 ·rw [Lc (by omega)]
  exact h.ok j hji
 ·have:j=i:=by omega
  subst this
  rw [xw (by omega),hlen]
  simpa using ⟨hr,hl⟩
def NP{l:cC}{base:dg}{sz:Nat->Nat}{ks:Nat->List Int}(ak:A5 l base sz ks): ∀(tl:List aq) (i:Nat) (rows:List (List cS)),l.Nodes.drop i=tl->i<=l.Nodes.length->I2 ks rows i->((yV base ks tl rows).2=0->I2 ks (yV base ks tl rows).1 l.Nodes.length)/\((yV base ks tl rows).2=0\/(yV base ks tl rows).2=3\/((yV base ks tl rows).2=140/\l.Nodes.any Lk=true))
 |[],i,rows,hd,hi,h1=>by
  have I:=rq hd
  have K:i=l.Nodes.length:=by omega
  unfold yV
  exact⟨fun _=>K▸h1,.inl rfl⟩
 |n::t,i,rows,hd,hi,h1=>by
  obtain⟨I,K,h3⟩:=kU hd
  obtain⟨n',hn',hb⟩:=Vk ak K h1
  rw [I]at hn'
  injection hn' with hn'
  subst hn'
  obtain⟨c1,c2,c3⟩:=MK (base:=base) hb.g hb.op hb.kinds hb.ka16 hb.kb16 hb.scan hb.a hb.b hb.al
  unfold yV
  rw [hb.w]
  by_cases h0:(wE n base (uf rows n.A) (uf rows n.B) (if n.B<0 then []else ks n.B.toNat).length).2=0
  ·rw [aS (by simp [h0])]
   exact NP ak t (i+1) _ h3 K (h1.next c1 c2)
  ·rw [br h0]
   refine⟨fun h=>absurd h h0,?_⟩
   rcases c3 with q|q|q
   ·exact absurd q h0
   ·rw [q];exact .inr (.inl rfl)
   ·rw [q.1]
    refine .inr (.inr ⟨rfl,zR.2 ⟨n,?_,q.2⟩⟩)
    rw [cO]at I
    exact BK I



def Gj:List ac->List Int->Bool
 |v::t,k::ks=>(gF v&&(v.Kind==0||v.Kind==k))&&Gj t ks
 |[],_=>true
 |_::_,[]=>false
def OT(kinds:List Int)(r:cS):Bool:=decide (r.length=kinds.length)&&Gj r kinds
def Ih(rows:List cS)(kinds:List Int):Bool:=decide (rows.length<=12)&&rows.all (OT kinds)
def If(kinds:List Int)(nx:Option Bool)(r:cS)(hl:r.length=kinds.length): ∀(n i:Nat),r.length-i=n->i<=r.length->od kinds nx (r.drop i) i=if Gj (r.drop i) (kinds.drop i)then nx else some false
 |0,i,h,hi=>by
  rw [EF (by omega)]
  unfold od Gj
  rfl
 |n+1,i,h,hi=>by
  have hlt:i<r.length:=by omega
  have hlk:i<kinds.length:=by omega
  rw [uA hlt,uA hlk]
  unfold od Gj
  rw [If kinds nx r hl n (i+1) (by omega) (by omega),qh,bt,cO,p5 hlk]
  simp only [bt]
  have e:(r[i].Kind==0)= !(r[i].Kind !=0):=by rw [bne,Bool.not_not]
  have e2:(r[i].Kind==kinds[i])= !(r[i].Kind !=kinds[i]):=by rw [bne,Bool.not_not]
  rw [e,e2]
  cases gF r[i]<;>cases (r[i].Kind !=0)<;>cases (r[i].Kind !=kinds[i])<;>simp
def adv(a b:Nat):((a:Int) !=(b:Int))= !decide (a=b):=by
 rw [De];simp;omega
def Ig(kinds:List Int): ∀rows:List cS,oe kinds rows=some (rows.all (OT kinds))
 |[]=>rfl
 |r::t=>by
  unfold oe
  rw [adv,BE,OT,Ig kinds t]
  by_cases h:r.length=kinds.length
  ·have:=If kinds (some (t.all (OT kinds))) r h r.length 0 rfl (lG _)
   rw [xM,xM]at this
   rw [zQ h,this]
   cases Gj r kinds<;>simp
  ·rw [yI h];simp
def Iz(rows:List cS)(kinds:List Int):uT rows kinds=some (Ih rows kinds):=by
 unfold uT Ih
 rw [Ig]
 by_cases h:rows.length<=12
 ·rw [aS (by rw [j9];omega),zQ h];rfl
 ·rw [br (by rw [j9];omega),yI h];rfl
def Hw(kinds:List Int)(nx:Option Bool)(r:cS)(hl:r.length=kinds.length): ∀(n i:Nat),r.length-i=n->i<=r.length->py nx r (kinds.drop i) i=if Gj (r.drop i) (kinds.drop i)then nx else some false
 |0,i,h,hi=>by
  rw [EF (show kinds.length<=i by omega),EF (show r.length<=i by omega)]
  unfold py Gj
  rfl
 |n+1,i,h,hi=>by
  have hlt:i<r.length:=by omega
  have hlk:i<kinds.length:=by omega
  rw [uA hlt,uA hlk]
  unfold py Gj
  rw [Hw kinds nx r hl n (i+1) (by omega) (by omega),cO,p5 hlt,bt,gg,bt]
  have e:(r[i].Kind==0)= !(r[i].Kind !=0):=by rw [bne,Bool.not_not]
  have e2:(r[i].Kind==kinds[i])= !(r[i].Kind !=kinds[i]):=by rw [bne,Bool.not_not]
  rw [e,e2]
  cases gF r[i]<;>cases (r[i].Kind !=0)<;>cases (r[i].Kind !=kinds[i])<;>simp
def Hx(kinds:List Int): ∀rows:List cS,pz kinds rows=some (rows.all (OT kinds))
 |[]=>rfl
 |r::t=>by
  unfold pz
  rw [adv,BE,OT,Hx kinds t]
  by_cases h:r.length=kinds.length
  ·have:=Hw kinds (some (t.all (OT kinds))) r h r.length 0 rfl (lG _)
   rw [xM,xM]at this
   rw [zQ h,this]
   cases Gj r kinds<;>simp
  ·rw [yI h];simp
def Jq(rows:List cS)(kinds:List Int):wl rows kinds=some (Ih rows kinds):=by
 unfold wl Ih
 rw [Hx]
 by_cases h:rows.length<=12
 ·rw [aS (by rw [j9];omega),zQ h];rfl
 ·rw [br (by rw [j9];omega),yI h];rfl

def uj(ks:Nat->List Int)(i:Nat):List Int:=(List.range i).map fun j=>((ks j).length:Int)
def Tj(x:Int)(h:0<=x)(K:x<(i:Int)):di (uj ks i) x=some (wdt ks x:Int):=by
 obtain⟨k,hk⟩:=GX h
 subst hk
 have hk:k<i:=by omega
 unfold uj wdt
 rw [cO,aS (by omega)]
 simp [hk]
def Np(ks:Nat->List Int)(i:Nat):uj ks i++[((ks i).length:Int)]=uj ks (i+1):=by
 unfold uj
 rw [List.range_succ,List.map_append]
 rfl
def RP(h:1<=rows.length)(K:rows.length<=100000):di rows (IntKind.i64.wrap ((rows.length:Int)-1))=some (H7 rows):=by
 rw [ot (by omega) (by omega),show(rows.length:Int)-1=((rows.length-1:Nat):Int)from by omega,cO]
 unfold H7
 rw [p5 (by omega)]
 rfl
def KH{l:cC}{base:dg}{sz:Nat->Nat}{ks:Nat->List Int}(ak:A5 l base sz ks): ∀(tl:List aq) (i:Nat) (rows:List (List cS)),l.Nodes.drop i=tl->i<=l.Nodes.length->I2 ks rows i->iz l tl i ⟨base,rows,uj ks i⟩=some (Ix (yV base ks tl rows))
 |[],i,rows,hd,hi,h1=>by
  have I:=rq hd
  have K:i=l.Nodes.length:=by omega
  have hlen:=h1.len
  have hle:=ak.known.le
  have hpos:=ak.known.pos
  unfold iz yV Ix
  rw [RP (rows:=rows) (by omega) (by omega)]
  rfl
 |n::t,i,rows,hd,hi,h1=>by
  obtain⟨I,K,h3⟩:=kU hd
  obtain⟨n',hn',hb⟩:=Vk ak K h1
  rw [I]at hn'
  injection hn' with hn'
  subst hn'
  have hlen:=h1.len
  have hle:=ak.known.le
  obtain⟨c1,c2,c3⟩:=MK (base:=base) hb.g hb.op hb.kinds hb.ka16 hb.kb16 hb.scan hb.a hb.b hb.al
  obtain⟨d1,d2⟩:=LX (base:=base) hb.g hb.op hb.kinds hb.ka16 hb.kb16 hb.scan hb.a hb.b hb.al
  have hcode:=TG hb ⟨base,rows,uj ks i⟩ rfl rfl (fun x h K=>Tj x h K)
  unfold Vq at hcode
  unfold iz yV
  rw [hcode,bt,hb.w]
  simp only []
  unfold wE at c1 c2 c3 ⊢
  generalize uM n base (uf rows n.A) (uf rows n.B) (if n.B<0 then []else ks n.B.toNat).length=q at c1 c2 c3 d1 d2 ⊢
  have hk2: ∀(rs:List cS) (q' :List cS×Int),rG (ks i) rs->rs.length<=8000->qx l (iz l t) i (q',⟨base,rows,uj ks i⟩) rs=some (Ix (yV base ks t (rows++[rs]))):=by
   intro rs q' hrs hrl
   unfold qx
   obtain⟨d,hd1,vi⟩:=Ql ak.small ak.right ak.known K
   rw [hd1,bt,vi,bt,cA (by simp;omega),bt,cA (by simp [uj];omega),bt]
   show iz l t (i+1) ⟨base,rows++[rs],uj ks i++[((ks i).length:Int)]⟩=_
   rw [Np]
   exact KH ak t (i+1) _ h3 K (h1.next hrs hrl)
  by_cases h0:q.2=0
  ·by_cases hl:8000<q.1.length
   ·have e:Ii n q=([],3):=by unfold Ii;rw [aS (by simp [h0]),br hl]
    rw [br (by simp only [h0,gN,uZ,j9,true_and];omega),e]
    rfl
   ·have e:Ii n q=(if n.Op=8 then q.1 else rO q.1,0):=by unfold Ii;rw [aS (by simp [h0]),aS hl]
    rw [aS (by simp only [h0,gN,uZ,j9,true_and];omega),e]
    rw [aS (c:=((if n.Op=8 then q.1 else rO q.1,(0:Int)):List cS×Int).2≠0) (by simp)]
    unfold qy
    rw [aS (by simp [h0])]
    by_cases h8:n.Op=8
    ·rw [br h8,aS (by simp [h8])]
     exact hk2 q.1 q d1 (by omega)
    ·rw [aS h8,br (by simpa using h8),Jk (d1.small hb.k16 (by omega)),d1.allr hb.k16,bt]
     exact hk2 (rO q.1) q (d1.perm (lJ fe _).symm) (by show(u9 fe q.1).length<=8000;rw [um];omega)
  ·have e:Ii n q=([],q.2):=by unfold Ii;rw [br h0]
   rw [aS (by simp [h0]),e]
   rw [br (c:=(([],q.2):List cS×Int).2≠0) h0]
   unfold qy Ix
   rw [br (by simpa using h0)]
   rw [br (c:=(([],q.2):List (List cS)×Int).2≠0) h0]
def Ke{l:cC}{base:dg}{sz:Nat->Nat}{ks:Nat->List Int}(ak:A5 l base sz ks): ∀(tl:List aq) (i fu:Nat) (rows:List (List cS)),l.Nodes.drop i=tl->i<=l.Nodes.length->l.Nodes.length<i+fu->I2 ks rows i->jb l base fu rows (i:Int)=some (Ix (yV base ks tl rows))
 |_,i,0,rows,hd,hi,hf,h1=>by omega
 |[],i,fu+1,rows,hd,hi,hf,h1=>by
  have I:=rq hd
  have K:i=l.Nodes.length:=by omega
  have hlen:=h1.len
  have hle:=ak.known.le
  have hpos:=ak.known.pos
  unfold jb yV Ix
  rw [aS (by rw [j9];omega),RP (rows:=rows) (by omega) (by omega)]
  rfl
 |n::t,i,fu+1,rows,hd,hi,hf,h1=>by
  obtain⟨I,K,h3⟩:=kU hd
  obtain⟨n',hn',hb⟩:=Vk ak K h1
  rw [I]at hn'
  injection hn' with hn'
  subst hn'
  have hlen:=h1.len
  have hle:=ak.known.le
  obtain⟨c1,c2,c3⟩:=MK (base:=base) hb.g hb.op hb.kinds hb.ka16 hb.kb16 hb.scan hb.a hb.b hb.al
  have hnode:=U3 hb
  obtain⟨m,F⟩:=ak.known.all i K
  have hm:n=m:=by have:=F.node;rw [I]at this;injection this
  subst hm
  obtain⟨pA,pB⟩:=su F
  have hk2:q8 base (jb l base fu) rows (i:Int) n (uf rows n.A) (uf rows n.B) ((if n.B<0 then []else ks n.B.toNat).length:Int)=some (Ix (yV base ks (n::t) rows)):=by
   unfold q8 yV
   rw [hnode,bt,hb.w]
   by_cases h0:(wE n base (uf rows n.A) (uf rows n.B) (if n.B<0 then []else ks n.B.toNat).length).2=0
   ·rw [aS (by simp [h0]),cA (by simp;omega),bt,aS (c:=(wE n base (uf rows n.A) (uf rows n.B) (if n.B<0 then []else ks n.B.toNat).length).2≠0) (fun h=>h h0),sd (by omega)]
    exact Ke ak t (i+1) fu _ h3 K (by omega) (h1.next c1 c2)
   ·rw [br (by simpa using h0),br h0]
    unfold Ix
    rw [br h0]
  have hk1:q9 l base (jb l base fu) rows (i:Int) n (uf rows n.A)=some (Ix (yV base ks (n::t) rows)):=by
   unfold q9
   rcases pB with q|q
   ·rw [aS (by rw [j9];omega)]
    have e1:uf rows n.B=[]:=by unfold uf;rw [br (by omega)]
    have e2:(if n.B<0 then([]:List Int)else ks n.B.toNat)=[]:=by rw [br (by omega)]
    rw [e1,e2]at hk2
    exact hk2
   ·have hB:di rows n.B=some (uf rows n.B):=GD q.1 (by omega)
    have hkB:mX l n.B=some (ks n.B.toNat,true):=by
     have:=Tv ak (p:=n.B.toNat) (by omega)
     rwa [show((n.B.toNat:Nat):Int)=n.B from by omega]at this
    rw [br (by rw [j9];omega),hB,bt,hkB,bt]
    rw [aS (by omega)]at hk2
    exact hk2
  unfold jb
  rw [br (by rw [j9];omega),I,bt]
  rcases pA with q|q
  ·rw [aS (by rw [j9];omega)]
   have e1:uf rows n.A=[]:=by unfold uf;rw [br (by omega)]
   rw [e1]at hk1
   exact hk1
  ·rw [br (by rw [j9];omega),GD q.1 (by omega),bt]
   exact hk1
def abE(ks:Nat->List Int):I2 ks [] 0:=⟨rfl,fun j hj=>by omega⟩
def Jp(ak:A5 l base sz ks):CI l base=some (DA l base ks):=
 Ke ak l.Nodes 0 fm [] rfl (lG _) (by have:=ak.known.le;have:=ku (n:=100) (by omega);omega) (abE ks)
def OU(b:dg)(n:aq):Bool:= !(n.Op==1)||(decide (n.Table<(b.Tables.length:Int))&&Ih (wg b n) n.Kinds)
def Kx(l:cC)(b:dg):Bool:=l.Nodes.all (OU b)
def OS{b:dg}(Y:n.Op=1->0<=n.Table)(f:List cS->List Int->Option Bool)(hf: ∀x y,f x y=some (Ih x y)):(if(n.Op==(1:Int))then((if(!(decide ((b.Tables.length:Int)<=n.Table)))then((di b.Tables n.Table).bind fun e1=>(f e1 n.Kinds).bind fun r1=>some (!r1))else some true).bind fun t1=>some t1)else some false)=some (!OU b n):=by
 unfold OU
 by_cases I:n.Op=1
 ·have h0:=Y I
  by_cases hl:n.Table<(b.Tables.length:Int)
  ·have hi:di b.Tables n.Table=some (wg b n):=by
    unfold wg
    rw [iX n.Table.toNat (by omega),p5 (by omega)]
    rfl
   rw [br (by simpa using I),br (by simp;omega),hi,bt,hf,bt,bt,I]
   simp [hl]
  ·rw [br (by simpa using I),aS (by simp;omega),bt,I]
   simp [hl]
 ·rw [aS (by simpa using I)]
  simp [I]
def I4(b:dg): ∀ns:List aq,(∀n∈ns,n.Op=1->0<=n.Table)->qz b ns=some (ns.all (OU b))
 |[],_=>rfl
 |n::t,h=>by
  unfold qz
  rw [OS (h n (mp ..)) uT Iz,bt,I4 b t fun x V=>h x (lT _ V),BE]
  cases OU b n<;>rfl
def FO(l:cC)(b:dg)(hle:l.Nodes.length<=60)(h: ∀n∈l.Nodes,n.Op=1->0<=n.Table): ∀(t:List aq) (i fu:Nat),l.Nodes.drop i=t->l.Nodes.length<i+fu->i<=l.Nodes.length->pD l b fu (i:Int)=some (t.all (OU b))
 |_,i,0,_,_,_=>by omega
 |[],i,fu+1,hd,hf,hi=>by
  have:=rq hd
  unfold pD
  rw [aS (by rw [j9];omega)]
  rfl
 |n::t,i,fu+1,hd,hf,hi=>by
  obtain⟨I,K,h3⟩:=kU hd
  have hm:n∈l.Nodes:=by rw [cO]at I;exact BK I
  unfold pD
  rw [br (by rw [j9];omega),I,bt,OS (h n hm) wl Jq,bt,sd (by omega),FO l b hle h t (i+1) fu h3 (by omega) (by omega),BE]
  cases OU b n<;>rfl
def Ho(h2:I0 l sz ks): ∀n∈l.Nodes,n.Op=1->0<=n.Table:=by
 intro n hn I
 obtain⟨j,hj,e⟩:=List.mem_iff_getElem.1 hn
 obtain⟨m,F⟩:=h2.all j hj
 have:m=n:=by
  have:=F.node
  rw [cO,p5 hj,e]at this
  injection this with this
  exact this.symm
 subst this
 exact(GA I F.kinds).2.1
def pY(hS:o4 l)(h:nh l=true)(b:dg):qA l b=some (Kx l b):=by
 obtain⟨sz,ks,h2⟩:=DU hS h
 obtain⟨_,⟨j,hj⟩,_⟩:=sS hS
 rw [h]at hj
 unfold qA
 rw [hj,bt,br rfl,aS (by decide),I4 b _ (Ho h2)]
 rfl
def IB(hS:o4 l)(h:nh l=false)(b:dg):qA l b=some false:=by
 obtain⟨_,⟨j,hj⟩,_⟩:=sS hS
 rw [h]at hj
 unfold qA
 rw [hj,bt]
 rfl
def Aw(hS:o4 l)(h:nh l=true)(b:dg):CJ l b=some (Kx l b):=by
 obtain⟨sz,ks,h2⟩:=DU hS h
 exact FO l b h2.le (Ho h2) l.Nodes 0 fm rfl (by have:=h2.le;have:=ku (n:=100) (by omega);omega) (lG _)
def Lw(b:dg):Prop:= ∀t∈b.Tables,HB t
def RY: ∀{r:cS} {ks:List Int},r.length=ks.length->Gj r ks=true->(∀k∈ks,k<=3)->Xv r->RK ks r
 |[],[],_,_,_,_=>trivial
 |v::t,k::ks,hl,h,hk,hr=>by
  unfold Gj at h
  simp only [gN,tB,uZ]at h
  have hk3:=hk k (mp ..)
  refine⟨HM ?_ (hr v (mp ..)),?_,RY (by simpa using hl) h.2 (fun x V=>hk x (lT _ V)) fun x V=>hr x (lT _ V)⟩
  ·unfold oJ
   rw [h.1.1]
   simp only [xr,ux,sJ]
   omega
  ·unfold t7;omega
 |[],_::_,hl,_,_,_=>by simp at hl
 |_::_,[],hl,_,_,_=>by simp at hl
def Rk{b:dg}(hN: ∀n∈l.Nodes,IZ n)(M:Lw b)(h:nh l=true)(hf:Kx l b=true): ∃sz ks,A5 l b sz ks:=by
 have hS:o4 l:=fun n hn=>(hN n hn).small
 obtain⟨sz,ks,h2⟩:=DU hS h
 refine⟨sz,ks,h2,h,hN,?_⟩
 intro j n hj I
 have hm:n∈l.Nodes:=by rw [cO]at hj;exact BK hj
 have hjl:j<l.Nodes.length:=by
  rw [cO]at hj
  obtain⟨h,_⟩:=pP.1 hj
  exact h
 obtain⟨m,F⟩:=h2.all j hjl
 have e:m=n:=by have:=F.node;rw [hj]at this;injection this with this;exact this.symm
 subst e
 obtain⟨k1,t1,t2⟩:=GA I F.kinds
 have hfn:=p7.1 hf m hm
 unfold OU at hfn
 rw [I]at hfn
 simp only [Fx,p6,xL,gN,j9]at hfn
 obtain⟨f1,f2⟩:=hfn
 unfold Ih at f2
 rw [gN,j9,p7]at f2
 have hlt:m.Table.toNat<b.Tables.length:=by omega
 have htab:wg b m=b.Tables[m.Table.toNat]:=by
  unfold wg
  rw [p5 hlt]
  rfl
 refine⟨hlt,?_,f2.1⟩
 intro r hr
 have hfr:=f2.2 r hr
 unfold OT at hfr
 rw [gN,j9]at hfr
 rw [k1]
 refine RY hfr.1 hfr.2 ?_ ?_
 ·intro k hk
  have:=Bo (ZQ hS h2.all j hjl) (by rw [k1];exact hk)
  unfold k4 at this
  omega
 ·rw [htab]at hr
  exact M _ (Dk hlt) r hr
def yw(ak:A5 l base sz ks)(hf:Kx l base=true):mn l base=some (DA l base ks):=by
 obtain⟨_,⟨j,hj⟩,_⟩:=sS ak.small
 rw [ak.right]at hj
 unfold mn
 rw [hj,bt,br rfl,aS (by decide),pY ak.small ak.right,bt,hf,aS (by decide)]
 exact KH ak l.Nodes 0 [] rfl (lG _) (abE ks)
def IA(hS:o4 l)(h:nh l=false)(base:dg):mn l base=some ([],230):=by
 obtain⟨_,⟨j,hj⟩,_⟩:=sS hS
 rw [h]at hj
 unfold mn
 rw [hj,bt]
 rfl
def Ef(hS:o4 l)(h:nh l=true)(hf:Kx l base=false):mn l base=some ([],250):=by
 obtain⟨_,⟨j,hj⟩,_⟩:=sS hS
 rw [h]at hj
 unfold mn
 rw [hj,bt,br rfl,aS (by decide),pY hS h,bt,hf]
 rfl
def Xt(ak:A5 l base sz ks):rG (ks (l.Nodes.length-1)) (DA l base ks).1/\(DA l base ks).1.length<=8000/\((DA l base ks).2=0\/DA l base ks=([],3)\/(DA l base ks=([],140)/\l.Nodes.any Lk=true)):=by
 obtain⟨I,K⟩:=NP ak l.Nodes 0 [] rfl (lG _) (abE ks)
 have hpos:=ak.known.pos
 unfold DA Ix
 by_cases h0:(yV base ks l.Nodes []).2=0
 ·rw [aS (by simp [h0])]
  have h1:=I h0
  have hl:=h1.len
  have:=h1.ok (l.Nodes.length-1) (by omega)
  refine⟨?_,?_,.inl rfl⟩
  ·show rG _ (H7 _)
   unfold H7
   rw [hl]
   exact this.1
  ·show(H7 _).length<=8000
   unfold H7
   rw [hl]
   exact this.2
 ·rw [br h0]
  refine⟨(fun r hr=>by cases hr),by simp,?_⟩
  rcases K with q|q|q
  ·exact absurd q h0
  ·rw [q];exact .inr (.inl rfl)
  ·rw [q.1];exact .inr (.inr ⟨rfl,q.2⟩)

def AD(nx:Option Bool)(v:Bool)(hn:nx=some v): ∀r:cS,∃w,m6 nx r=some w/\(w=false->v=false/\ ∀x∈r,x.S.length<=200)
 |[]=>⟨v,hn,fun h=>⟨h,by simp⟩⟩
 |e::t=>by
  unfold m6
  by_cases h:200<e.S.length
  ·exact⟨true,by rw [br (by rw [j9];omega)],fun h=>by cases h⟩
  ·obtain⟨w,I,K⟩:=AD nx v hn t
   refine⟨w,by rw [aS (by rw [j9];omega)];exact I,fun hw=>⟨(K hw).1,?_⟩⟩
   intro x V
   rcases gW.1 V with q|q
   ·rw [q];omega
   ·exact(K hw).2 x q
def AE: ∀l:List cS,∃w,jX l=some w/\(w=false-> ∀r∈l,r.length<=30)
 |[]=>⟨false,rfl,fun _=>by simp⟩
 |e::t=>by
  unfold jX
  by_cases h:30<e.length
  ·exact⟨true,by rw [br (by rw [j9];omega)],fun h=>by cases h⟩
  ·obtain⟨v,I,K⟩:=AE t
   obtain⟨w,h3,h4⟩:=AD (jX t) v I e
   refine⟨w,by rw [aS (by rw [j9];omega)];exact h3,fun hw=>?_⟩
   intro x V
   rcases gW.1 V with q|q
   ·rw [q];omega
   ·exact K (h4 hw).1 x q
def N9(l:List cS)(m:Nat): ∃w,s7 l (m:Int)=some w/\(w=false->l.length<=m/\ ∀r∈l,r.length<=30):=by
 unfold s7
 by_cases h:m<l.length
 ·exact⟨true,by rw [br (by rw [j9];omega)],fun h=>by cases h⟩
 ·obtain⟨w,I,K⟩:=AE l
  exact⟨w,by rw [aS (by rw [j9];omega)];exact I,fun hw=>⟨by omega,K hw⟩⟩
def IR(b:dg):Prop:=b.Tables.length<=10/\ ∀t∈b.Tables,t.length<=30/\ ∀r∈t,r.length<=30
def AH: ∀l:List (List cS),∃w,m8 l=some w/\(w=false-> ∀t∈l,t.length<=30/\ ∀r∈t,r.length<=30)
 |[]=>⟨false,rfl,fun _=>by simp⟩
 |e::t=>by
  unfold m8
  obtain⟨w,I,K⟩:=N9 e 30
  rw [show((30:Nat):Int)=30 from rfl]at I
  rw [I,bt]
  cases w with
  |true=>exact⟨true,rfl,fun h=>by cases h⟩
  |false=>
   obtain⟨v,h3,h4⟩:=AH t
   refine⟨v,by rw [aS (by decide)];exact h3,fun hv=>?_⟩
   intro x V
   rcases gW.1 V with q|q
   ·rw [q];exact K rfl
   ·exact h4 hv x q
def Oa(b:dg): ∃w,s8 b=some w/\(w=false->IR b):=by
 unfold s8
 by_cases h:10<b.Tables.length
 ·exact⟨true,by rw [br (by rw [j9];omega)],fun h=>by cases h⟩
 ·obtain⟨w,I,K⟩:=AH b.Tables
  exact⟨w,by rw [aS (by rw [j9];omega)];exact I,fun hw=>⟨by omega,K hw⟩⟩
def AF: ∀l:List bZ,∃w,m7 l=some w
 |[]=>⟨false,rfl⟩
 |e::t=>by
  unfold m7
  obtain⟨w,h⟩:=AF t
  split
  ·exact⟨true,rfl⟩
  ·exact⟨w,h⟩
def AG(e:cy): ∃w,nX e=some w/\(w=false->e.Nodes.length<=100):=by
 unfold nX
 by_cases h:100<e.Nodes.length
 ·exact⟨true,by rw [br (by rw [j9];omega)],fun h=>by cases h⟩
 ·obtain⟨w,I⟩:=AF e.Nodes
  exact⟨w,by rw [aS (by rw [j9];omega)];exact I,fun hw=>by omega⟩
def HP(b:dg)(nx:Int->Option Bool)(hn: ∀x,∃w,nx x=some w)(P:Prop)(hP: ∀x,nx x=some false->P)(e:aq)(rows:Int): ∀l:List jt,∃w,pJ b nx e rows l=some w/\(w=false->P/\ ∀g∈l,g.Arg.Nodes.length<=100)
 |[]=>by
  unfold pJ
  by_cases h:(((e.Op==(1:Int))&&(decide ((0:Int)<=e.Table)))&&(decide (e.Table<(b.Tables.length:Int))))=true
  ·rw [br h]
   simp only [gN,j9]at h
   rw [iX (xs:=b.Tables) e.Table.toNat (by omega),p5 (by omega),bt]
   obtain⟨w,hw⟩:=hn (IntKind.i64.wrap (rows*(IntKind.i64.wrap ((b.Tables[e.Table.toNat].length:Int)+(1:Int)))))
   exact⟨w,hw,fun h=>⟨hP _ (by rw [hw,h]),by simp⟩⟩
  ·rw [aS h]
   obtain⟨w,hw⟩:=hn rows
   exact⟨w,hw,fun h=>⟨hP _ (by rw [hw,h]),by simp⟩⟩
 |g::t=>by
  unfold pJ
  obtain⟨v,I,K⟩:=AG g.Arg
  rw [I,bt]
  cases v with
  |true=>exact⟨true,rfl,fun h=>by cases h⟩
  |false=>
   obtain⟨w,h3,h4⟩:=HP b nx hn P hP e rows t
   refine⟨w,by rw [aS (by decide)];exact h3,fun hw=>⟨(h4 hw).1,?_⟩⟩
   intro x V
   rcases gW.1 V with q|q
   ·rw [q];exact K rfl
   ·exact(h4 hw).2 x q
def HQ(b:dg)(nx:Int->Option Bool)(hn: ∀x,∃w,nx x=some w)(P:Prop)(hP: ∀x,nx x=some false->P)(e:aq)(rows:Int): ∀l:List cy,∃w,pK b nx e rows l=some w/\(w=false->P/\(∀g∈e.Aggs,g.Arg.Nodes.length<=100)/\ ∀x∈l,x.Nodes.length<=100)
 |[]=>by
  unfold pK
  obtain⟨w,I,K⟩:=HP b nx hn P hP e rows e.Aggs
  exact⟨w,I,fun h=>⟨(K h).1,(K h).2,by simp⟩⟩
 |g::t=>by
  unfold pK
  obtain⟨v,I,K⟩:=AG g
  rw [I,bt]
  cases v with
  |true=>exact⟨true,rfl,fun h=>by cases h⟩
  |false=>
   obtain⟨w,h3,h4⟩:=HQ b nx hn P hP e rows t
   refine⟨w,by rw [aS (by decide)];exact h3,fun hw=>⟨(h4 hw).1,(h4 hw).2.1,?_⟩⟩
   intro x V
   rcases gW.1 V with q|q
   ·rw [q];exact K rfl
   ·exact(h4 hw).2.2 x q
structure A6(n:aq):Prop where
 kinds:n.Kinds.length<=20
 keys:n.Keys.length<=20
 order:n.Order.length<=20
 items:n.Items.length<=20
 aggs:n.Aggs.length<=20
 cond:n.Cond.Nodes.length<=100
 exprs: ∀e∈n.Items,e.Nodes.length<=100
 args: ∀g∈n.Aggs,g.Arg.Nodes.length<=100
def CQ(b:dg): ∀(l:List aq) (rows:Int),∃w,ml b l rows=some w/\(w=false-> ∀n∈l,A6 n)
 |[],rows=>⟨_,rfl,fun _=>by simp⟩
 |n::t,rows=>by
  unfold ml
  obtain⟨v,I,K⟩:=AG n.Cond
  by_cases M:(((((decide ((20:Int)<(n.Kinds.length:Int)))||(decide ((20:Int)<(n.Keys.length:Int))))||(decide ((20:Int)<(n.Order.length:Int))))||(decide ((20:Int)<(n.Items.length:Int))))||(decide ((20:Int)<(n.Aggs.length:Int))))=true
  ·rw [M]
   exact⟨true,rfl,fun h=>by cases h⟩
  ·rw [p8.2 M,I]
   simp only [Dd,gx,bt]
   cases v with
   |true=>exact⟨true,rfl,fun h=>by cases h⟩
   |false=>
    simp only [tB,j9,not_or,Int.not_lt]at M
    obtain⟨w,h3,h4⟩:=HQ b (ml b t) (fun x=>by obtain⟨w,h,_⟩:=CQ b t x;exact⟨w,h⟩) (∀m∈t,A6 m) (fun x V=>by obtain⟨w,h,h'⟩:=CQ b t x;rw [V]at h;injection h with h;exact h' h.symm) n rows n.Items
    refine⟨w,by rw [aS (by decide)];exact h3,fun hw=>?_⟩
    obtain⟨p1,p2,p3⟩:=h4 hw
    intro m hm
    rcases gW.1 hm with q|q
    ·rw [q]
     exact⟨by omega,by omega,by omega,by omega,by omega,K rfl,p3,p2⟩
    ·exact p1 m q
def XB(l:cC)(b:dg): ∃w,zf l b=some w/\(w=false->l.Nodes.length<=30/\ ∀n∈l.Nodes,A6 n):=by
 unfold zf
 by_cases h:30<l.Nodes.length
 ·exact⟨true,by rw [br (by rw [j9];omega)],fun h=>by cases h⟩
 ·obtain⟨w,I,K⟩:=CQ b l.Nodes 1
  exact⟨w,by rw [aS (by rw [j9];omega)];exact I,fun hw=>⟨by omega,K hw⟩⟩
structure rgN(n:aq):Prop where
 cond:NT n.Cond.Nodes
 items: ∀e∈n.Items,NT e.Nodes
 args: ∀g∈n.Aggs,NT g.Arg.Nodes
def rgL(l:cC):Prop:= ∀n∈l.Nodes,rgN n
def A6.small(h:A6 n):kO n:=
 ⟨by have:=h.cond;omega,by have:=h.kinds;omega,by have:=h.keys;omega,by have:=h.aggs;omega,by have:=h.items;omega,by have:=h.order;omega,fun g H=>by have:=h.args g H;omega,fun e he=>by have:=h.exprs e he;omega⟩
def A6.g{n:aq}(h:A6 n)(r:rgN n):IZ n:=
 ⟨h.small,⟨by have:=h.cond;omega,r.cond⟩,fun e he=>⟨by have:=h.exprs e he;omega,r.items e he⟩,fun g H=>⟨by have:=h.args g H;omega,r.args g H⟩⟩
def wkT:cC:=⟨[⟨1,-1,-1,0,[2],false,⟨[]⟩,[],[],[],[],0⟩,⟨4,0,-1,0,[],false,⟨[]⟩,[],[⟨1,⟨[]⟩⟩,⟨3,⟨[⟨2,-1,-1,0,⟨0,0,0,[]⟩⟩]⟩⟩],[],[],0⟩]⟩
def wkB:dg:=⟨[[[⟨2,1,0,[]⟩],[⟨2,2,0,[]⟩],[⟨0,0,0,[]⟩]]]⟩
def UF:nh wkT=true:=by kernel_rfl
def Xj(ks:Nat->List Int):DA wkT wkB ks=([[iV 3,iV 3]],0):=by
 kernel_rfl

def No: ∀n∈wkT.Nodes,A6 n/\rgN n:=by
 intro n hn
 have h0:NT ([]:List bZ):=fun x V=>by cases V
 have I:NT [(⟨2,-1,-1,0,⟨0,0,0,[]⟩⟩:bZ)]:=by
  intro x V
  rw [EE.1 V]
  unfold r64
  show -9223372036854775808<=(0:Int)/\(0:Int)<=9223372036854775807
  omega
 unfold wkT at hn
 simp only [gW,JI,or_false]at hn
 rcases hn with h|h
 ·subst h
  exact⟨⟨by decide,by decide,by decide,by decide,by decide,by decide,fun e he=>by(cases he),fun g H=>by(cases H)⟩,⟨h0,fun e he=>by(cases he),fun g H=>by(cases H)⟩⟩
 ·subst h
  refine⟨⟨by decide,by decide,by decide,by decide,by decide,by decide,fun e he=>by(cases he),fun g H=>?_⟩,⟨h0,fun e he=>by(cases he),fun g H=>?_⟩⟩
  ·simp only [gW,JI,or_false]at H
   rcases H with q|q<;>rw [q]<;>decide
  ·simp only [gW,JI,or_false]at H
   rcases H with q|q
   ·rw [q];exact h0
   ·rw [q];exact I
def Xk:Lw wkB:=by
 intro t Y r hr v hv
 unfold wkB at Y
 simp only [gW,JI,or_false]at Y
 subst Y
 simp only [gW,JI,or_false]at hr
 unfold r64
 rcases hr with q|q|q<;>subst q<;>rw [EE.1 hv]<;>decide
def PM:xg=some true:=by
 obtain⟨sz,ks,ak⟩:=Rk (fun n hn=>(No n hn).1.g (No n hn).2) Xk UF (by kernel_rfl)
 have h:=yw ak (by kernel_rfl)
 rw [Xj]at h
 unfold xg
 show((mn wkT wkB).bind _)=_
 rw [h]
 rfl
def SM(b:dg)(M:IR b)(nx:Int->dg->Option dg)(i:Nat)(hi:i<b.Tables.length)(out:dg)(ho:out.Tables.length<=1000): ∀(fu k:Nat) (l1:List cS),(b.Tables[i]).length<k+fu->k<=(b.Tables[i]).length->l1=(b.Tables[i]).take k->rb b nx (i:Int) out fu l1 (k:Int)=nx ((i+1:Nat):Int) ⟨out.Tables++[b.Tables[i]]⟩
 |0,k,l1,I,K,_=>by omega
 |fu+1,k,l1,I,K,h3=>by
  have hbl:=M.1
  obtain⟨ht1,ht2⟩:=M.2 _ (Dk hi)
  unfold rb
  have hi2:di b.Tables (i:Int)=some b.Tables[i]:=by rw [cO,p5 hi]
  rw [hi2,bt]
  by_cases hk:k<(b.Tables[i]).length
  ·have hk2:di b.Tables[i] (k:Int)=some (b.Tables[i])[k]:=by rw [cO,p5 hk]
   have hr:=ht2 _ (Dk hk)
   rw [br (by rw [j9];omega),hk2,bt,IL _ [] (by omega) (by simp),bt,tA,cA (by rw [h3];simp;omega),bt,sd (by omega),SM b M nx i hi out ho fu (k+1) _ (by omega) (by omega) (by rw [h3,Ld hk])]
  ·have hkk:k=(b.Tables[i]).length:=by omega
   rw [aS (by rw [j9];omega),cA (by simp;omega),bt,sd (by omega),h3,hkk,Dg]
def SN(b:dg)(M:IR b): ∀(fu i:Nat) (out:dg),b.Tables.length<i+fu->i<=b.Tables.length->out.Tables=b.Tables.take i->nj b fu (i:Int) out=some b
 |0,i,out,I,K,_=>by omega
 |fu+1,i,out,I,K,h3=>by
  have hbl:=M.1
  unfold nj
  by_cases hi:i<b.Tables.length
  ·obtain⟨ht1,_⟩:=M.2 _ (Dk hi)
   rw [br (by rw [j9];omega)]
   have:=SM b M (nj b fu) i hi out (by rw [h3,B4];omega) fm 0 [] (by have:=ku (n:=100) (by omega);omega) (lG _) (by simp)
   rw [show((0:Nat):Int)=0 from rfl]at this
   rw [this]
   exact SN b M fu (i+1) _ (by omega) (by omega) (by show out.Tables++[b.Tables[i]]=_;rw [h3,Ld hi])
  ·have hii:i=b.Tables.length:=by omega
   rw [aS (by rw [j9];omega)]
   rw [hii,Dg]at h3
   cases out;cases b
   simp only at h3
   rw [h3]
def Zz{b:dg}(M:IR b):zb b=some b:=by
 unfold zb
 exact SN b M fm 0 _ (by have:=M.1;have:=ku (n:=100) (by omega);omega) (lG _) (by simp)
def wX(l:cC)(b:dg)(M:IR b)(r4:List cS×Int)(r5:Bool)(hend:ga l b b r4 r5 [] b.Tables.length=some true): ∀(t:List (List cS)) (i:Nat),b.Tables.drop i=t->i<=b.Tables.length->ga l b b r4 r5 t i=some true
 |[],i,hd,hi=>by
  have:=rq hd
  have:i=b.Tables.length:=by omega
  rw [this];exact hend
 |e::t,i,hd,hi=>by
  obtain⟨I,K,h3⟩:=kU hd
  obtain⟨he1,he2⟩:=M.2 e (by rw [cO]at I;exact BK I)
  unfold ga
  rw [HH e (by omega),bt,I]
  have ih:=wX l b M r4 r5 hend t (i+1) h3 K
  simp only [bt]
  rw [Ch e e (fun r hr=>by have:=he2 r hr;omega)]
  simp only [bt,Dh,p6,ite_self]
  exact ih
def Ts(l:cC)(b:dg)(hl:rgL l)(M:Lw b):qL l b=some true:=by
 unfold qL
 rw [PM,bt,aS (by decide)]
 obtain⟨w,I,K⟩:=Oa b
 obtain⟨v,h3,h4⟩:=XB l b
 rw [I,bt,h3]
 cases w with
 |true=>rfl
 |false=>
  cases v with
  |true=>rfl
  |false=>
   have hsb:=K rfl
   obtain⟨hn,hsl⟩:=h4 rfl
   have hN: ∀n∈l.Nodes,IZ n:=fun n hn=>(hsl n hn).g (hl n hn)
   have hS:o4 l:=fun n hn=>(hN n hn).small
   simp only [Dd,gx,bt,iq,fU]
   rw [Zz hsb]
   simp only [bt]
   obtain⟨hright,_,_⟩:=sS hS
   by_cases hr:nh l=true
   ·rw [hr]at hright
    by_cases hf:Kx l b=true
    ·obtain⟨sz,ks,ak⟩:=Rk hN M hr hf
     rw [yw ak hf,pY hS hr,hf]
     simp only [bt]
     refine wX l b hsb _ _ ?_ b.Tables 0 rfl (lG _)
     unfold ga
     rw [hright,bt,aS (by decide),Aw hS hr,hf,bt,aS (by decide),Jp ak]
     obtain⟨p1,p2,_⟩:=Xt ak
     have hk16:(ks (l.Nodes.length-1)).length<=16:=TP ak.known
     simp only [bt,xr,Fx,gx]
     rw [Ch _ _ (fun r hm=>by rw [(p1 r hm).len];omega)]
     simp
    ·have hf:=p8.2 hf
     rw [Ef hS hr hf,pY hS hr,hf]
     simp only [bt]
     refine wX l b hsb _ _ ?_ b.Tables 0 rfl (lG _)
     unfold ga
     rw [hright,bt,aS (by decide),Aw hS hr,hf]
     rfl
   ·have hr:=p8.2 hr
    rw [hr]at hright
    rw [IA hS hr,IB hS hr]
    simp only [bt]
    refine wX l b hsb _ _ ?_ b.Tables 0 rfl (lG _)
    unfold ga
    rw [hright]
    rfl
end Go.Proofs.YtpgjgkdpeagjbaaGreatDoor

