import Derived.Test.YtadeokalnbmppaaGreatDoorReU5
import Derived.Test.YtadeokalnbmppaaGreatDoorReY15
import Derived.Test.YtadeokalnbmppaaGreatDoorReY4
import Derived.Test.YtadeokalnbmppaaGreatDoorReY3
import Derived.Test.YtadeokalnbmppaaGreatDoorReQ5
import Derived.Test.YtadeokalnbmppaaGreatDoorReY5
/- cH of this claim: O1. -/
set_option linter.all false
namespace Go.Proofs.YtadeokalnbmppaaGreatDoor
open Go IntKind
section
inductive FT where
 |lf (n:ac) (k:List Int)
 |un (n:ac) (k:List Int) (a:FT)
 |bi (n:ac) (k:List Int) (a b:FT)
def FT.op:FT->Int
 | .lf n _=>n.Op
 | .un n _ _=>n.Op
 | .bi n _ _ _=>n.Op
def FT.ks:FT->List Int
 | .lf _ k=>k
 | .un _ k _=>k
 | .bi _ k _ _=>k
def FT.size:FT->Nat
 | .lf _ _=>1
 | .un _ _ a=>a.size+1
 | .bi _ _ a b=>a.size+b.size+1
def FT.flat:FT->Nat->List ac
 | .lf n _,_=>[dh n (-1) (-1)]
 | .un n _ a,s=>a.flat s++[dh n ((s+a.size:Nat)-1:Int) (-1)]
 | .bi n _ a b,s=>a.flat s++b.flat (s+a.size)++[dh n ((s+a.size:Nat)-1:Int) ((s+a.size+b.size:Nat)-1:Int)]
def FT.kl:FT->List (List Int)
 | .lf _ k=>[k]
 | .un _ k a=>a.kl++[k]
 | .bi _ k a b=>a.kl++b.kl++[k]
def FT.ns:FT->List ac
 | .lf n _=>[n]
 | .un n _ a=>a.ns++[n]
 | .bi n _ a b=>a.ns++b.ns++[n]
def FT.pos(t:FT):1<=t.size:=by cases t<;>simp [FT.size]
def FT.X'(t:FT): ∀s,(t.flat s).length=t.size:=by
 induction t with
 |lf n k=>intro s;rfl
 |un n k a ih=>intro s;simp [FT.flat,FT.size,ih]
 |bi n k a b iha ihb=>intro s;simp [FT.flat,FT.size,iha,ihb];omega
def FT.kl_len(t:FT):t.kl.length=t.size:=by
 induction t with
 |lf n k=>rfl
 |un n k a ih=>simp [FT.kl,FT.size,ih]
 |bi n k a b iha ihb=>simp [FT.kl,FT.size,iha,ihb];omega
def FT.kl_last(t:FT):t.kl[t.size-1]? =some t.ks:=by
 cases t with
 |lf n k=>rfl
 |un n k a=>
  show(a.kl++[k])[a.size+1-1]? =some k;rw [sE (by rw [a.kl_len];omega),a.kl_len];simp
 |bi n k a b=>
  show((a.kl++b.kl)++[k])[a.size+b.size+1-1]? =some k;rw [sE (by simp [a.kl_len,b.kl_len]),jY,a.kl_len,b.kl_len];simp
def shA{d:Nat}{x:Nat}(I:1<=x)(h:x<=10000)(hd:d<=10000):yE (d:Int) ((x:Nat)-1:Int)=((d+x:Nat)-1:Int):=by
 unfold yE;rw [bq (by omega),wrap_i64];omega
def FT.flat_sh(t:FT){d:Nat}(hd:d<=10000): ∀s,s+t.size<=10000->(t.flat s).map (xf (d:Int))=t.flat (d+s):=by
 have e1: ∀(n:ac) (a b:Int),xf (d:Int) (dh n a b)=dh n (yE (d:Int) a) (yE (d:Int) b):=fun _ _ _=>rfl;have em:yE (d:Int) (-1)= -1:=by unfold yE;rw [aZ (by omega)]
 induction t with
 |lf n k=>intro s _;simp only [FT.flat,vi,BE,e1,em]
 |un n k a ih=>
  intro s h;simp only [FT.size]at h;have:=a.pos;simp only [FT.flat,CO,vi,BE,e1,em];rw [ih s (by omega),shA (by omega) (by omega) hd,show d+(s+a.size)=d+s+a.size by omega]
 |bi n k a b iha ihb=>
  intro s h;simp only [FT.size]at h;have:=a.pos;have:=b.pos;simp only [FT.flat,CO,vi,BE,e1];rw [iha s (by omega),ihb (s+a.size) (by omega),shA (by omega) (by omega) hd,shA (by omega) (by omega) hd,show d+(s+a.size)=d+s+a.size by omega,show d+(s+a.size+b.size)=d+s+a.size+b.size by omega]
def FT.mem_flat(t:FT): ∀(s:Nat) (e:ac),e∈t.flat s-> ∃n∈t.ns,∃a b,e=dh n a b:=by
 induction t with
 |lf n k=>intro s e h;exact⟨n,by simp [FT.ns],_,_,np.1 h⟩
 |un n k a ih=>
  intro s e h;rcases oO.1 h with h|h
  ·obtain⟨m,hm,q⟩:=ih s e h;exact⟨m,uR _ hm,q⟩
  ·exact⟨n,by simp [FT.ns],_,_,np.1 h⟩
 |bi n k a b iha ihb=>
  intro s e h;rcases oO.1 h with h|h
  ·rcases oO.1 h with h|h
   ·obtain⟨m,hm,q⟩:=iha s e h;exact⟨m,uR _ (uR _ hm),q⟩
   ·obtain⟨m,hm,q⟩:=ihb _ e h;exact⟨m,uR _ (CR _ hm),q⟩
  ·exact⟨n,by simp [FT.ns],_,_,np.1 h⟩
def Ov(e:ac)(a b R:List Int):Prop:= ∀l:ap,(e.Op=11-> ∃x,dm l.A' e.A=some x/\x.Op=9)->Lb (xL l e a b)->vw e.Op (xL l e a b) ()=some (true,{xL l e a b with B':=R})
structure NW(n:ac)(a b k:List Int):Prop where
 own:Dh n=true
 sm:d9 n
 ask: ∀A B,Ov (dh n A B) a b k
 len:k.length<=16
 four:n.Op=11\/((4:Int)∉a/\(4:Int)∉b)
def FT.nr(t:FT):Prop:=t.op≠8/\t.op≠10
def FT.W:FT->Prop
 | .lf n k=>sZ n.Op=0/\NW n [] [] k
 | .un n k a=>sZ n.Op=1/\NW n a.ks [] k/\a.W/\a.nr/\(n.Op=11-> ∃m q,a= .lf m q/\m.Op=9)
 | .bi n k a b=>sZ n.Op=2/\NW n a.ks b.ks k/\a.W/\b.W/\a.nr/\b.nr
def d9.root{n:ac}(h:d9 n)(a b:Int):d9 (dh n a b):=⟨h.cond,h.j',h.keys,h.z_,h.items,h.order,h.args,h.exprs⟩
section
variable{ns:List ac}{l:ap}{i:Nat}
def Kp(h:Ib ns l i)(hi:i<100)(hn:ns.length<=100){e:ac}(he:ns[i]? =some e)(hs:d9 e)(hp:PlN e l.D'.reverse)(ho:Dh e=true){R:List Int}(ha:Ov e (kA l.j' e.A) (kA l.j' e.B) R)(I:e.Op=11-> ∃x,dm ns e.A=some x/\x.Op=9)(hR:R.length<=16)(hS:wm e (kA l.j' e.A) (kA l.j' e.B)=true)(hr:Ah ns e i=false)(tl:List ac):
  ∃l',jR ns ((sM).getD []) (e::tl) i (-1) l=jR ns ((sM).getD []) tl (i+1) (-1) l' /\Ib ns l' (i+1)/\l'.j'=l.j'++[R]/\l'.D'.reverse=(i:Int)::l.D'.reverse.drop (sZ e.Op).toNat:=by
 have hlb:Lb (xL l e (kA l.j' e.A) (kA l.j' e.B)):=⟨hs,KW h.j' _,KW h.j' _⟩;have g:=ha l (fun h11=>by rw [h.A'];exact I h11) hlb;obtain⟨l',t1,t2⟩:=OW h hi hn he hs hp ho g;have hT:(wm e (kA l.j' e.A) (kA l.j' e.B)&&(!(Ah ns e i)&&(true&&decide (R.length<=16))))=true:=by
  rw [hS,hr,zM hR];rfl
 obtain⟨u1,u2⟩:=t2 hT;obtain⟨ok2,l2,q1,_,q3⟩:=UL h hi hn he hs;rw [hT]at t1;rw [t1]at q1;cases q1;refine⟨l',?_,q3 rfl,u1,u2⟩;have t1' :kU l (i:Int) ((jC ((sM).getD []) e.Op).getD (fun _ _=>none))=some (true,l'):=t1
 conv=>lhs;unfold jR
 rw [t1',bh,aZ (by simp)]
def PN{hb:List (List Int)}{t:FT}:kA (hb++t.kl) ((hb.length+t.size:Nat)-1:Int)=t.ks:=by
 have:=t.pos;unfold kA;rw [aZ (by omega),show(((hb.length+t.size:Nat):Int)-1).toNat=hb.length+(t.size-1) by omega,sE (by omega),show hb.length+(t.size-1)-hb.length=t.size-1 by omega,t.kl_last];rfl
def Ko{e:ac}{a b:List Int}(h:e.Op=11\/((4:Int)∉a/\(4:Int)∉b)):wm e a b=true:=by
 unfold wm;rcases h with h|⟨D,V⟩
 ·simp [h]
 ·simp [D,V]
def Hd{e:ac}(hi:i<ns.length)(hn:ns.length<=100)(h:e.Op=8\/e.Op=10->i+1=ns.length):Ah ns e i=false:=by
 unfold Ah;rw [cJ (by omega) (by omega)];by_cases h8:e.Op=8\/e.Op=10
 ·have:=h h8;have:((i:Int) !=(ns.length:Int)-1)=false:=by rw [bne_eq_false_iff_eq];omega
  rw [this,Bool.and_false]
 ·have:((e.Op==8)||(e.Op==10))=false:=by rw [QN];exact⟨by simpa using fun h=>h8 (.inl h),by simpa using fun h=>h8 (.inr h)⟩
  rw [this,E0]
end
def aaP(t:FT): ∀{ns:List ac} {l:ap} {i:Nat} {post:List ac},t.W->ns.drop i=t.flat i++post->ns.length<=100->Ib ns l i->(t.op=8\/t.op=10->i+t.size=ns.length)->
  ∃l',jR ns ((sM).getD []) (t.flat i++post) i (-1) l=jR ns ((sM).getD []) post (i+t.size) (-1) l' /\Ib ns l' (i+t.size)/\l'.j'=l.j'++t.kl/\l'.D'.reverse=((i+t.size:Nat)-1:Int)::l.D'.reverse:=by
 have atp: ∀{ns pre:List ac} {i:Nat} {e:ac} {post:List ac},ns.drop i=pre++e::post->ns[i+pre.length]? =some e/\ns.drop (i+pre.length+1)=post:=fun{ns pre i e post} h=>by
  have D:ns.drop (i+pre.length)=e::post:=by rw [<-vE,h,List.drop_left]
  refine⟨?_,?_⟩
  ·have:=congrArg (fun x=>x[0]?) D;simpa using this
  ·rw [<-vE,D];rfl
 induction t with
 |lf n k=>
  intro ns l i post hW hd hn h hr;obtain⟨hp,hN⟩:=hW;obtain⟨he,hd'⟩:=atp (pre:=[]) (e:=dh n (-1) (-1)) (post:=post) hd;have hi:=(oC.1 he).1;simp only [tZ,wV]at he hi;obtain⟨l',g1,g2,g3,g4⟩:=Kp h (by omega) hn he (hN.sm.root _ _) (.inl ⟨hp,rfl,rfl⟩) hN.own (R:=k) (by show Ov (dh n (-1) (-1)) (kA l.j' (-1)) (kA l.j' (-1)) k;rw [Ay];exact hN.ask _ _) (fun h11=>by have:n.Op=11:=h11;rw [this]at hp;exact absurd hp (by decide)) hN.len (by show wm _ (kA l.j' (-1)) (kA l.j' (-1))=true;rw [Ay];exact Ko (.inr ⟨by simp,by simp⟩)) (Hd hi hn fun h8=>hr h8) post;refine⟨l',g1,g2,g3,?_⟩;rw [g4];show(i:Int)::l.D'.reverse.drop (sZ n.Op).toNat=_;rw [hp];show(i:Int)::l.D'.reverse=((i+1:Nat)-1:Int)::_;congr 1;omega
 |un n k a ih=>
  intro ns l i post hW hd hn h hr;obtain⟨hp,hN,hWa,hna,h11⟩:=hW;have hpos:=a.pos;have TC:ns.drop i=a.flat i++([dh n ((i+a.size:Nat)-1:Int) (-1)]++post):=by rw [hd];simp [FT.flat]
  obtain⟨l1,g1,g2,g3,g4⟩:=ih hWa TC hn h (fun h8=>absurd h8 (by have:=hna.1;have:=hna.2;omega));obtain⟨he,hd'⟩:=atp (pre:=a.flat i) (e:=dh n ((i+a.size:Nat)-1:Int) (-1)) (post:=post) TC;rw [a.X']at he hd';have hi:=(oC.1 he).1;have hlen:l.j'.length=i:=h.len;have ekA:kA l1.j' ((i+a.size:Nat)-1:Int)=a.ks:=by rw [g3,<-hlen];exact PN
  obtain⟨l',f1,f2,f3,f4⟩:=Kp g2 (by omega) hn he (hN.sm.root _ _) (.inr (.inl ⟨hp,rfl,l.D'.reverse,by rw [g4];rfl⟩)) hN.own (R:=k)
   (by show Ov (dh n _ (-1)) (kA l1.j' ((i+a.size:Nat)-1:Int)) (kA l1.j' (-1)) k;rw [Ay,ekA];exact hN.ask _ _)
   (fun h=>by
    obtain⟨m,q,rfl,hm⟩:=h11 h;obtain⟨he0,_⟩:=atp (pre:=[]) (e:=dh m (-1) (-1)) (post:=[dh n ((i+1:Nat)-1:Int) (-1)]++post) TC;refine⟨dh m (-1) (-1),?_,hm⟩;show dm ns ((i+1:Nat)-1:Int)=_;rw [show((i+1:Nat)-1:Int)=(i:Int) by omega,bR];exact he0) hN.len
   (by show wm _ (kA l1.j' ((i+a.size:Nat)-1:Int)) (kA l1.j' (-1))=true;rw [Ay,ekA];exact Ko (hN.four.imp id fun h=>h))
   (Hd hi hn fun h8=>by have:=hr h8;simp only [FT.size]at this;omega) post
  refine⟨l',?_,f2,?_,?_⟩
  ·show jR ns _ ((a.flat i++[dh n ((i+a.size:Nat)-1:Int) (-1)])++post) i (-1) l=_;rw [gJ,g1];exact f1
  ·rw [f3,g3,gJ];rfl
  ·rw [f4];show((i+a.size:Nat):Int)::l1.D'.reverse.drop (sZ n.Op).toNat=_;rw [hp,g4];show((i+a.size:Nat):Int)::l.D'.reverse=((i+(a.size+1):Nat)-1:Int)::_;congr 1;omega
 |bi n k a b iha ihb=>
  intro ns l i post hW hd hn h hr;obtain⟨hp,hN,hWa,hWb,hna,hnb⟩:=hW;have hpa:=a.pos;have hpb:=b.pos;have TC:ns.drop i=a.flat i++(b.flat (i+a.size)++([dh n ((i+a.size:Nat)-1:Int) ((i+a.size+b.size:Nat)-1:Int)]++post)):=by rw [hd];simp [FT.flat]
  obtain⟨l1,g1,g2,g3,g4⟩:=iha hWa TC hn h (fun h8=>absurd h8 (by have:=hna.1;have:=hna.2;omega));have hd3:ns.drop (i+a.size)=b.flat (i+a.size)++([dh n ((i+a.size:Nat)-1:Int) ((i+a.size+b.size:Nat)-1:Int)]++post):=by
   rw [<-vE,TC,List.drop_left' (a.X' i)]
  obtain⟨l2,k1,k2,k3,k4⟩:=ihb hWb hd3 hn g2 (fun h8=>absurd h8 (by have:=hnb.1;have:=hnb.2;omega));obtain⟨he,hd'⟩:=atp (pre:=b.flat (i+a.size)) (e:=dh n ((i+a.size:Nat)-1:Int) ((i+a.size+b.size:Nat)-1:Int)) (post:=post) hd3;rw [b.X']at he hd';have hi:=(oC.1 he).1;have hlen:l.j'.length=i:=h.len;have hl1:l1.j'.length=i+a.size:=g2.len;have ekB:kA l2.j' ((i+a.size+b.size:Nat)-1:Int)=b.ks:=by rw [k3,<-hl1];exact PN
  have ekA:kA l2.j' ((i+a.size:Nat)-1:Int)=a.ks:=by
   rw [k3,yk (by omega),g3,<-hlen];exact PN
  obtain⟨l',f1,f2,f3,f4⟩:=Kp k2 (by omega) hn he (hN.sm.root _ _) (.inr (.inr ⟨hp,l.D'.reverse,by rw [k4,g4];rfl⟩)) hN.own (R:=k)
   (by show Ov (dh n _ _) (kA l2.j' ((i+a.size:Nat)-1:Int)) (kA l2.j' ((i+a.size+b.size:Nat)-1:Int)) k;rw [ekA,ekB];exact hN.ask _ _)
   (fun h=>by have:n.Op=11:=h;rw [this]at hp;exact absurd hp (by decide)) hN.len
   (by show wm _ (kA l2.j' ((i+a.size:Nat)-1:Int)) (kA l2.j' ((i+a.size+b.size:Nat)-1:Int))=true;rw [ekA,ekB];exact Ko (hN.four.imp id fun h=>h))
   (Hd hi hn fun h8=>by have:=hr h8;simp only [FT.size]at this;omega) post
  refine⟨l',?_,?_,?_,?_⟩
  ·show jR ns _ ((a.flat i++b.flat (i+a.size)++[dh n ((i+a.size:Nat)-1:Int) ((i+a.size+b.size:Nat)-1:Int)])++post) i (-1) l=_;rw [gJ,gJ,g1,k1,show i+(FT.bi n k a b).size=i+a.size+b.size+1 by simp only [FT.size];omega];exact f1
  ·rw [show i+(FT.bi n k a b).size=i+a.size+b.size+1 by simp only [FT.size];omega];exact f2
  ·rw [f3,k3,g3];simp [FT.kl]
  ·rw [f4];show((i+a.size+b.size:Nat):Int)::l2.D'.reverse.drop (sZ n.Op).toNat=_;rw [hp,k4,g4];show((i+a.size+b.size:Nat):Int)::l.D'.reverse=((i+(a.size+b.size+1):Nat)-1:Int)::_;congr 1;omega
def VL{t:FT}(hW:t.W)(hl:t.size<=60)(hk: ∀k∈t.kl,k.length<=100):sk (t.flat 0)=some (t.kl,0,0):=by
 have hlen:=t.X' 0;have hpos:=t.pos;have hkl:=t.kl_len;unfold sk;rw [aZ (by simp;omega)];obtain⟨l',g1,g2,g3,g4⟩:=aaP t (ns:=t.flat 0) (l:=⟨t.flat 0,[],[],⟨0,0,0,0,[],false,⟨[]⟩,[],[],[],[],0⟩,[],[],[]⟩) (i:=0) (post:=[]) hW (by simp) (by omega) ⟨rfl,rfl,fun p hp=>(by cases hp),eX _,fun k hk=>(by cases hk),fun j hj=>by omega⟩ (fun _=>by omega);rw [yH]at g1;refine Eq.trans g1 ?_;have ho:l'.D'.length=1:=by
  have:=congrArg List.length g4;simpa using this
 unfold jR uK;rw [aZ (by rw [ho];simp)];unfold uJ;rw [aZ (by decide),g3];show oI ([]++t.kl) []=_;rw [lz,FO t.kl [] hk (by simp;omega),lz]
end
section
def D4{cs:List cc}: ∀(l:List Int) (i:Nat),l=(cs.drop i).map (fun x=>x.Kind)->dk cs nL l i=some true
 |[],i,_=>rfl
 |k::tl,i,h=>by
  have hi:i<cs.length:=by
   rcases mN i cs.length with hc|hc
   ·exact hc
   ·rw [FX hc]at h;cases h
  rw [yK hi,vi]at h;injection h with D V;unfold dk;rw [bR,qV hi,bh];show(if(!(k==cs[i].Kind))then some false else _)=some true;rw [D,aZ (by simp)];exact D4 tl (i+1) V
structure ZQ(c:bo)(f:bt)(root:List Int):Prop where
 h_:f.At=1\/f.At=2
 way:1<=f.Way/\f.Way<=4
 d_:f.Way=1↔0<f.l_.length
 inr: ∀x∈f.l_,∃k:Nat,x=(k:Int)/\ ∃r,root[k]? =some r/\r≠4
 clen:f.l_.length<=16
 scan: ∀n∈f.u',n.Op=1->f.At=1/\ ∃t,0<=n.M'/\dm c.i_ n.M'=some t/\n.U'=t.b_.map (fun x=>x.Kind)
def XQ{x:df}{f:bt}{root:List Int}(h:ZQ x.c f root):qA (some x) f root=some true:=by
 unfold qA;have hw:=h.way;have hat:=h.h_;have hcl:=h.clen;have hwc:((f.Way==(1:Int)) !=(decide ((0:Int)<(f.l_.length:Int))))=false:=by
  rw [bne_eq_false_iff_eq,uQ,vD,vk,h.d_];omega
 rw [hwc];rw [aZ (by simp;omega)];have hf1: ∀c,gu root c=some ((gu root c).getD true):=fun c=>by
  obtain⟨b,K,_⟩:=TH root c;rw [K];rfl
 rw [iv hf1,bh];have D:f.l_.any (fun c=>(gu root c).getD true)=false:=by
  rw [IR];intro y hy;obtain⟨k,rfl,r,V,Z⟩:=h.inr y hy;have hk:=(oC.1 V).1;unfold gu;rw [bq (by simp;omega),bR,V];simpa using Z
 rw [D,aZ (by simp)];have hT: ∀n∈f.u',n.Op=1->0<=n.M':=fun n hn D=>by obtain⟨_,t,h0,_⟩:=h.scan n hn D;exact h0
 have hf2: ∀n∈f.u',mO f (some x) n=some false:=fun n hn=>by
  unfold mO;by_cases D:n.Op=1
  ·obtain⟨V,t,h0,Y,hk⟩:=h.scan n hn D;have o_:n.M'<(x.c.i_.length:Int):=by
    rw [me n.M'.toNat (by omega)]at Y;have:=(oC.1 Y).1;omega
   rw [aZ (by simp [D]),bq (by simp [V]),bh,bh,aZ (by simp;omega),bh,Y,bh];have e:ef n.U' t.b_ nL=some true:=by
    unfold ef;rw [aZ (by simp [hk])];exact D4 n.U' 0 (by rw [vj];exact hk)
   rw [e];rfl
  ·rw [bq (by simpa using D)]
 rw [Gj hf2,bh];have V:f.u'.any (fun _=>false)=false:=by simp
 rw [V];rfl
def Hc(KS:List (List (List Int)))(i:Nat)(R:List Int):Prop:= ∃hb,KS[i]? =some hb/\dm hb (i64.wrap ((hb.length:Int)-1))=some R
def Rd{q:dp}{c:bo}{KS:List (List (List Int))}{i:Nat}{R:List Int}(h:Hc KS i R):mq (some ⟨q,c,KS⟩) (i:Int)=some R:=by
 obtain⟨hb,D,V⟩:=h;unfold mq;rw [bh,bR];show(KS[i]?).bind _=_;rw [D,bh,V];rfl
structure ZM(q:dp)(KS:List (List (List Int)))(r_:Nat)(f:bt):Prop where
 inp: ∀n∈f.u',n.Op=9-> ∃t:Nat,n.M'=(t:Int)/\t<r_/\Hc KS t n.U'
 last:r_+1=q.J'.length->f.Way=4/\f.At=2/\Jh r_ q.J' 0=[]/\ ∃R,Hc KS r_ R/\(4:Int)∉R
 more:r_+1<q.J'.length->f.Way≠4/\ ∃(j:Nat) (k:Int) (g:bt),Jh r_ q.J' 0=[((j:Int),k)]/\q.J'[j]? =some g/\(f.Way=3↔g.At=2)
def UZ{q:dp}{c:bo}{KS:List (List (List Int))}{r_:Nat}{f:bt}(Q:q.J'[r_]? =some f)(hl:q.J'.length<=100)(h:ZM q KS r_ f):pO (some ⟨q,c,KS⟩) (r_:Int)=some true:=by
 have hat:=(oC.1 Q).1;unfold pO;rw [bh,bR,Q,bh];have key: ∀ns:List ac,(∀n∈ns,n∈f.u')->jF (some ⟨q,c,KS⟩) (r_:Int) f ns=some true:=by
  intro ns
  induction ns with
  |nil=>
   intro _;unfold jF;rw [bh,JF,bh];show(Ir (DM (fun(y:Int×Int) (s:Bool×Int)=>lj (some ⟨q,c,KS⟩) y s.1 s.2)) (Jh (r_:Int) q.J' 0) (false,(0:Int)) some).bind _=some true;by_cases hlast:r_+1=q.J'.length
   ·obtain⟨w,a,r,R,hR,h4⟩:=h.last hlast;rw [r];show(if((r_:Int)==(i64.wrap ((q.J'.length:Int)-(1:Int))))then _ else _)=some true;rw [cJ (by omega) (by omega),bq (by simp;omega),bq (by simp [w,a]),Rd hR,bh,sa,bh,bh];simp [h4]
   ·obtain⟨w,j,k,g,r,H,e⟩:=h.more (by omega);rw [r];have K:DM (fun(x:Int×Int) (s:Bool×Int)=>lj (some ⟨q,c,KS⟩) x s.1 s.2) ((j:Int),k) (false,(0:Int))=some (true,(g.At==2,(1:Int))):=by
     have I:dm q.J' (j:Int)=some g:=by rw [bR];exact H
     simp [DM,lj,I];decide
    unfold Ir;rw [K,bh,aZ (by simp)];show(if((r_:Int)==(i64.wrap ((q.J'.length:Int)-(1:Int))))then _ else _)=some true;rw [cJ (by omega) (by omega),aZ (by simp;omega)];have e' :((f.Way==(3:Int))==(g.At==(2:Int)))=true:=by rw [vD,uQ,vD,vD];exact e
    have w' :(f.Way !=(4:Int))=true:=by simpa using w
    rw [w',e'];rfl
  |cons n tl ih=>
   intro K_;unfold jF;by_cases h9:n.Op=9
   ·obtain⟨t,Y,o_,hR⟩:=h.inp n (K_ n (pz ..)) h9;rw [bq (by simp [h9]),Y,bq (by simp;omega),Rd hR,bh,tW,bh,bh,bh,aZ (by simp)];exact ih fun m hm=>K_ m (pA _ hm)
   ·rw [aZ (by simpa using h9),bh,aZ (by simp)];exact ih fun m hm=>K_ m (pA _ hm)
 exact key f.u' fun n hn=>hn
structure H6(c:bo)(q:dp)(KS:List (List (List Int))):Prop where
 cat:NZ c=true
 n1:1<=q.J'.length
 n30:q.J'.length<=30
 len:KS.length=q.J'.length
 fr: ∀(i:Nat) (f:bt),q.J'[i]? =some f-> ∃hb R,KS[i]? =some hb/\sk f.u'=some (hb,0,0)/\dm hb (i64.wrap ((hb.length:Int)-1))=some R/\ZQ c f R
 rd: ∀(i:Nat) (f:bt),q.J'[i]? =some f->ZM q KS i f
def FI{c:bo}{q:dp}{KS:List (List (List Int))}(h:H6 c q KS): ∀(tl:List bt) (i:Nat),q.J'.drop i=tl->rz ⟨q,c,KS⟩ tl i=some (some ⟨q,c,KS⟩,0,0,0)
 |[],i,hd=>rfl
 |f::tl,i,hd=>by
  obtain⟨hidx,hi,hd'⟩:=im hd;rw [bR]at hidx;unfold rz;rw [UZ hidx (by have:=h.n30;omega) (h.rd i f hidx),bh,aZ (by simp)];exact FI h tl (i+1) hd'
def FJ{c:bo}{q:dp}{KS:List (List (List Int))}(h:H6 c q KS): ∀(tl:List bt) (i:Nat),q.J'.drop i=tl->i<=q.J'.length->rA q tl i ⟨q,c,KS.take i⟩=some (some ⟨q,c,KS⟩,0,0,0)
 |[],i,hd,hi=>by
  have hlen:=yr hd;rw [s8 (by have:=h.len;omega)];exact FI h q.J' 0 rfl
 |f::tl,i,hd,_=>by
  obtain⟨hidx,hi,hd'⟩:=im hd;rw [bR]at hidx;obtain⟨hb,R,k1,k2,k3,k4⟩:=h.fr i f hidx;have h30:=h.n30;unfold rA;rw [k2,bh,aZ (by simp)];show((dm hb (i64.wrap ((hb.length:Int)-(1:Int)))).bind _)=_;rw [k3,bh,XQ k4,bh,aZ (by simp)];show((nH (KS.take i) [hb]).bind _)=_;have hkl:=h.len;rw [cK (by rw [Br,Eb];omega),bh,show KS.take i++[hb]=KS.take (i+1) by rw [List.take_add_one,k1];rfl];exact FJ h tl (i+1) hd' (by omega)
def N2{c:bo}{q:dp}{KS:List (List (List Int))}(hc:CB c)(h:H6 c q KS):ww q c=some (some ⟨q,c,KS⟩,0,0,0):=by
 have D:=h.n1;have h30:=h.n30;unfold ww;rw [yu hc,bh,h.cat,bq rfl,aZ (by decide),aZ (by simp;omega)];exact FJ h q.J' 0 rfl (kY _)
def WE{c:bo}{q:dp}{KS:List (List (List Int))}(hc:CB c)(h:H6 c q KS):um q c=some (0,0,0):=by
 unfold um;rw [N2 hc h];rfl
def QM{c:bo}{q:dp}{KS:List (List (List Int))}(h:H6 c q KS){R:List Int}(hR:Hc KS (q.J'.length-1) R):q6 q=some (R,0):=by
 have D:=h.n1;have h30:=h.n30;obtain⟨f,Q⟩: ∃f,q.J'[q.J'.length-1]? =some f:=⟨_,qV (by omega)⟩;obtain⟨hb,R',k1,k2,k3,_⟩:=h.fr _ f Q;obtain⟨K2,e1,e2⟩:=hR;rw [k1]at e1;cases e1;rw [k3]at e2;cases e2;unfold q6;rw [aZ (by rw [vD];omega),cJ (by omega) (by omega),show(q.J'.length:Int)-1=((q.J'.length-1:Nat):Int) by omega,bR,Q,bh,k2,bh,aZ (by simp)];show((dm hb (i64.wrap ((hb.length:Int)-(1:Int)))).bind _)=_;rw [k3];rfl
end
section
def FT.flat_AB(t:FT): ∀(s j:Nat) (e:ac),(t.flat s)[j]? =some e->e.A<((s+j:Nat):Int)/\e.B<((s+j:Nat):Int):=by
 induction t with
 |lf n k=>
  intro s j e h
  match j,h with
  |0,h=>
   have:dh n (-1) (-1)=e:=by simpa [FT.flat] using h
   subst this;show(-1:Int)<_/\(-1:Int)<_;omega
  |j+1,h=>simp [FT.flat]at h
 |un n k a ih=>
  intro s j e h;have hl:=a.X' s;have hp:=a.pos;simp only [FT.flat]at h;rcases mN j a.size with hj|hj
  ·rw [lT (by omega)]at h;exact ih s j e h
  ·rw [sE (by omega),hl]at h;have hj2:=(oC.1 h).1;simp only [Eb]at hj2;rw [show j-a.size=0 by omega]at h;have:dh n ((s+a.size:Nat)-1:Int) (-1)=e:=by simpa using h
   subst this;show((s+a.size:Nat)-1:Int)<_/\(-1:Int)<_;omega
 |bi n k a b iha ihb=>
  intro s j e h;have hla:=a.X' s;have hlb:=b.X' (s+a.size);have hpa:=a.pos;have hpb:=b.pos;simp only [FT.flat]at h;rcases mN j (a.size+b.size)with hj|hj
  ·rw [lT (by simp;omega)]at h;rcases mN j a.size with hj2|hj2
   ·rw [lT (by omega)]at h;exact iha s j e h
   ·rw [sE (by omega),hla]at h;have:=ihb _ _ e h;omega
  ·rw [sE (by simp;omega)]at h;have hj2:=(oC.1 h).1;simp only [Eb,jY,hla,hlb]at hj2;rw [show j-(a.flat s++b.flat (s+a.size)).length=0 by simp only [jY,hla,hlb];omega]at h;have:dh n ((s+a.size:Nat)-1:Int) ((s+a.size+b.size:Nat)-1:Int)=e:=by simpa using h
   subst this;show((s+a.size:Nat)-1:Int)<_/\((s+a.size+b.size:Nat)-1:Int)<_;omega
def FT.Up(C:ac->Option ac->Prop):FT->Prop
 | .lf m _=>C m none
 | .un n _ a=>match a with
  | .lf m _=>C m (some n)
  | .un n' k' a' =>FT.Up C (.un n' k' a')
  | .bi n' k' a' b' =>FT.Up C (.bi n' k' a' b')
 | .bi _ _ a b=>a.Up C/\b.Up C
def FT.Up.un{C:ac->Option ac->Prop}{n:ac}{k:List Int}{a:FT}(h:a.Up C)(hl: ∀m q,a= .lf m q->C m (some n)):(FT.un n k a).Up C:=by
 cases a with
 |lf m q=>exact hl m q rfl
 |un n' k' a' =>exact h
 |bi n' k' a' b' =>exact h
def FT.Up.mono{C h1:ac->Option ac->Prop}{t:FT}(h:t.Up C)(e: ∀m o,(∃n∈t.ns,n=m)->C m o->h1 m o):t.Up h1:=by
 induction t with
 |lf m k=>exact e m none ⟨m,by simp [FT.ns],rfl⟩ h
 |un n k a ih=>
  cases a with
  |lf m q=>exact e m (some n) ⟨m,by simp [FT.ns],rfl⟩ h
  |un n' k' a' =>exact ih h fun m o hm=>e m o (by obtain⟨x,I,q⟩:=hm;exact⟨x,uR _ I,q⟩)
  |bi n' k' a' b' =>exact ih h fun m o hm=>e m o (by obtain⟨x,I,q⟩:=hm;exact⟨x,uR _ I,q⟩)
 |bi n k a b iha ihb=>
  exact⟨iha h.1 fun m o hm=>e m o (by obtain⟨x,I,q⟩:=hm;exact⟨x,uR _ (uR _ I),q⟩),ihb h.2 fun m o hm=>e m o (by obtain⟨x,I,q⟩:=hm;exact⟨x,uR _ (CR _ I),q⟩)⟩
def FT.up_at{C:ac->Option ac->Prop}(t:FT):t.W->t.Up C-> ∀(s j:Nat) (e:ac),(t.flat s)[j]? =some e->sZ e.Op=0-> ∃m,e=dh m (-1) (-1)/\(C m none\/ ∃n,C m (some n)/\(t.flat s)[j+1]? =some (dh n ((s+j:Nat):Int) (-1))):=by
 induction t with
 |lf n k=>
  intro hW hU s j e h he
  match j,h with
  |0,h=>exact⟨n,by simpa [FT.flat] using h.symm,.inl hU⟩
  |j+1,h=>simp [FT.flat]at h
 |un n k a ih=>
  intro hW hU s j e h he;have hl:=a.X' s;have hp:=a.pos;simp only [FT.flat]at h ⊢;rcases mN j a.size with hj|hj
  ·rw [lT (by omega)]at h;have up: ∀{x:ac},(a.flat s)[j+1]? =some x->(a.flat s++[dh n ((s+a.size:Nat)-1:Int) (-1)])[j+1]? =some x:=fun{x} I=>by
    rw [lT (oC.1 I).1];exact I
   cases a with
   |lf m q=>
    have hj0:j=0:=by simp only [FT.size]at hj;omega
    subst hj0;refine⟨m,by simpa [FT.flat] using h.symm,.inr ⟨n,hU,?_⟩⟩;show([dh m (-1) (-1)]++[dh n ((s+1:Nat)-1:Int) (-1)])[1]? =_;rw [show((s+1:Nat)-1:Int)=((s+0:Nat):Int) by omega];rfl
   |un n' k' a' =>
    obtain⟨m,D,V⟩:=ih hW.2.2.1 hU s j e h he;exact⟨m,D,V.imp id fun⟨x,Z,h4⟩=>⟨x,Z,up h4⟩⟩
   |bi n' k' a' b' =>
    obtain⟨m,D,V⟩:=ih hW.2.2.1 hU s j e h he;exact⟨m,D,V.imp id fun⟨x,Z,h4⟩=>⟨x,Z,up h4⟩⟩
  ·rw [sE (by omega),hl]at h;have hj2:=(oC.1 h).1;simp only [Eb]at hj2;rw [show j-a.size=0 by omega]at h;have:dh n ((s+a.size:Nat)-1:Int) (-1)=e:=by simpa using h
   subst this;have he:sZ n.Op=0:=he;have:=hW.1;omega
 |bi n k a b iha ihb=>
  intro hW hU s j e h he;have hla:=a.X' s;have hlb:=b.X' (s+a.size);have hpa:=a.pos;have hpb:=b.pos;simp only [FT.flat]at h ⊢;rcases mN j (a.size+b.size)with hj|hj
  ·rw [lT (by simp;omega)]at h;rcases mN j a.size with hj2|hj2
   ·rw [lT (by omega)]at h;obtain⟨m,D,V⟩:=iha hW.2.2.1 hU.1 s j e h he;refine⟨m,D,V.imp id fun⟨x,Z,h4⟩=>⟨x,Z,?_⟩⟩;have:=(oC.1 h4).1;rw [lT (by rw [jY];omega),lT this];exact h4
   ·rw [sE (by omega),hla]at h;obtain⟨m,D,V⟩:=ihb hW.2.2.2.1 hU.2 _ _ e h he;refine⟨m,D,V.imp id fun⟨x,Z,h4⟩=>⟨x,Z,?_⟩⟩;have:=(oC.1 h4).1;rw [lT (by rw [jY];omega),sE (by omega),hla,show j+1-a.size=j-a.size+1 by omega,h4,show s+a.size+(j-a.size)=s+j by omega]
  ·rw [sE (by simp;omega)]at h;have hj2:=(oC.1 h).1;simp only [Eb,jY,hla,hlb]at hj2;rw [show j-(a.flat s++b.flat (s+a.size)).length=0 by simp only [jY,hla,hlb];omega]at h;have:dh n ((s+a.size:Nat)-1:Int) ((s+a.size+b.size:Nat)-1:Int)=e:=by simpa using h
   subst this;have he:sZ n.Op=0:=he;have:=hW.1;omega
end
section
def cn(op k:Int):List ac->Nat
 |[]=>0
 |n::l=>(if n.Op=op/\n.M'=k then 1 else 0)+cn op k l
def cF(op k:Int):List bt->Nat
 |[]=>0
 |f::l=>cn op k f.u'+cF op k l
def ux(op k:Int): ∀a b:List ac,cn op k (a++b)=cn op k a+cn op k b
 |[],b=>by simp [cn]
 |n::a,b=>by show _+cn op k (a++b)=_;rw [ux op k a b];simp only [cn];omega
def uy(op k:Int): ∀a b:List bt,cF op k (a++b)=cF op k a+cF op k b
 |[],b=>by simp [cF]
 |n::a,b=>by show _+cF op k (a++b)=_;rw [uy op k a b];simp only [cF];omega
def DG{op k:Int}: ∀{l:List ac},(∀n∈l,n.Op≠op\/n.M'≠k)->cn op k l=0
 |[],_=>rfl
 |n::l,h=>by
  unfold cn;rw [DG fun m hm=>h m (pA _ hm),aZ (by have:=h n (pz ..);rintro⟨a,b⟩;rcases this with h|h;exact h a;exact h b)]
def Pq(k:Int)(i:Nat): ∀(ns:List ac) (m:Nat),(Xp k i ns m).length=cn 9 k ns
 |[],m=>rfl
 |n::tl,m=>by
  unfold Xp cn;by_cases h:n.Op=9/\n.M'=k
  ·rw [bq (by simp [h]),bq h,jr,Pq k i tl];omega
  ·rw [aZ (by simpa using h),aZ h,Pq k i tl];omega
def U0(k:Int): ∀(fs:List bt) (i:Nat),(Jh k fs i).length=cF 9 k fs
 |[],_=>rfl
 |f::tl,i=>by unfold Jh cF;rw [jY,Pq,U0 k tl]
structure vx(f0 f1:List bt)(P:Int->Nat):Prop where
 ext: ∃new,f1=f0++new/\ ∀k:Int,cF 9 k new+P k=if(f0.length:Int)<=k/\k<(f1.length:Int)then 1 else 0
def vx.le{f0 f1:List bt}{P:Int->Nat}(h:vx f0 f1 P):f0.length<=f1.length:=by
 obtain⟨new,e,_⟩:=h.ext;rw [e];simp
def vx.nil(f:List bt):vx f f (fun _=>0):=⟨[],by simp,fun k=>by rw [aZ (by omega)];rfl⟩
def vx.congr{f0 f1:List bt}{P hf:Int->Nat}(h:vx f0 f1 P)(e: ∀k,hf k=P k):vx f0 f1 hf:=by
 obtain⟨new,D,V⟩:=h.ext;exact⟨new,D,fun k=>by rw [e];exact V k⟩
def vx.join{f0 f1 f2:List bt}{A B:Int->Nat}(D:vx f0 f1 A)(V:vx f1 f2 B):vx f0 f2 (fun k=>A k+B k):=by
 have l1:=D.le;have l2:=V.le;obtain⟨n1,e1,g1⟩:=D.ext;obtain⟨n2,e2,g2⟩:=V.ext;refine⟨n1++n2,by rw [e2,e1,gJ],fun k=>?_⟩;have a:=g1 k;have b:=g2 k;rw [uy];by_cases c1:(f0.length:Int)<=k/\k<(f1.length:Int)
 ·rw [bq c1]at a;rw [aZ (by omega)]at b;rw [bq (by omega)];omega
 ·rw [aZ c1]at a;by_cases c2:(f1.length:Int)<=k/\k<(f2.length:Int)
  ·rw [bq c2]at b;rw [bq (by omega)];omega
  ·rw [aZ c2]at b;rw [aZ (by omega)];omega
def vx.send{f0 f1:List bt}{s:be}{B:Int->Nat}(h:vx f0 f1 (fun k=>cn 9 k s.A'+B k))(way:Int)(d_:List Int):vx f0 (nR s way d_ f1) (fun k=>cn 9 k (lg s way d_ f1).A'+B k):=by
 have l1:=h.le;obtain⟨n1,e1,g1⟩:=h.ext;refine⟨n1++[⟨s.A',s.h_,way,d_⟩],by unfold nR;rw [e1,gJ],fun k=>?_⟩;have a:=g1 k;have e:cn 9 k (lg s way d_ f1).A'=if k=(f1.length:Int)then 1 else 0:=by
  unfold lg kX cn cn;by_cases hk:k=(f1.length:Int)
  ·rw [bq ⟨rfl,hk.symm⟩,bq hk]
  ·rw [aZ (fun h=>hk h.2.symm),aZ hk]
 have e2:cF 9 k [(⟨s.A',s.h_,way,d_⟩:bt)]=cn 9 k s.A':=by simp [cF]
 have e3:(nR s way d_ f1).length=f1.length+1:=by simp [nR]
 rw [uy,e2,e,e3];by_cases hk:k=(f1.length:Int)
 ·rw [aZ (by omega)]at a;rw [bq hk,bq (by omega)];omega
 ·rw [aZ hk];by_cases c:(f0.length:Int)<=k/\k<(f1.length:Int)
  ·rw [bq c]at a;rw [bq (by omega)];omega
  ·rw [aZ c]at a;rw [aZ (by omega)];omega
def vx.swap{f0 f1:List bt}{A B:Int->Nat}(h:vx f0 f1 (fun k=>A k+B k)):vx f0 f1 (fun k=>B k+A k):=h.congr fun _=>Nat.add_comm ..
def Td{fs:List bt}{g:bt}(h:vx [] fs (fun k=>cn 9 k g.u'))(k:Nat):(Jh (k:Int) (fs++[g]) 0).length=if k<fs.length then 1 else 0:=by
 obtain⟨new,e,V⟩:=h.ext;have a:=V (k:Int);rw [lz]at e;rw [U0,uy,e];have e2:cF 9 (k:Int) [g]=cn 9 (k:Int) g.u':=by simp [cF]
 rw [e2,a,<-e];simp only [tZ];by_cases c:k<fs.length
 ·rw [bq c,bq (by omega)]
 ·rw [aZ c,aZ (by omega)]
structure sU(f0 f1:List bt)(P hf:Int->Nat):Prop where
 ext: ∃new,f1=f0++new/\ ∀k:Int,cF 1 k new+P k=hf k
def sU.nil(f:List bt)(P:Int->Nat):sU f f P P:=⟨[],by simp,fun k=>by simp [cF]⟩
def sU.congr{f0 f1:List bt}{P P' hf Q' :Int->Nat}(h:sU f0 f1 P hf)(e: ∀k,P' k=P k)(e2: ∀k,Q' k=hf k):sU f0 f1 P' Q' :=by
 obtain⟨new,D,V⟩:=h.ext;exact⟨new,D,fun k=>by rw [e,e2];exact V k⟩
def sU.join{f0 f1 f2:List bt}{A B hf R:Int->Nat}(D:sU f0 f1 A hf)(V:sU f1 f2 B R):sU f0 f2 (fun k=>A k+B k) (fun k=>hf k+R k):=by
 obtain⟨n1,e1,g1⟩:=D.ext;obtain⟨n2,e2,g2⟩:=V.ext;refine⟨n1++n2,by rw [e2,e1,gJ],fun k=>?_⟩;have a:=g1 k;have b:=g2 k;rw [uy];omega
def sU.send{f0 f1:List bt}{s:be}{B hf:Int->Nat}(h:sU f0 f1 (fun k=>cn 1 k s.A'+B k) hf)(way:Int)(d_:List Int):sU f0 (nR s way d_ f1) (fun k=>cn 1 k (lg s way d_ f1).A'+B k) hf:=by
 obtain⟨n1,e1,g1⟩:=h.ext;refine⟨n1++[⟨s.A',s.h_,way,d_⟩],by unfold nR;rw [e1,gJ],fun k=>?_⟩;have a:=g1 k;have e:cn 1 k (lg s way d_ f1).A'=0:=DG fun n hn=>by
  have:n=kX f1.length s.j':=by simpa [lg] using hn
  subst this;exact .inl (by show(9:Int)≠1;decide)
 have e2:cF 1 k [(⟨s.A',s.h_,way,d_⟩:bt)]=cn 1 k s.A':=by simp [cF]
 rw [uy,e2,e];omega
def sU.swap{f0 f1:List bt}{A B hf:Int->Nat}(h:sU f0 f1 (fun k=>A k+B k) hf):sU f0 f1 (fun k=>B k+A k) hf:=h.congr (fun _=>Nat.add_comm ..) fun _=>rfl
end
section
def Rb(c:bo)(n:ac):bT:=match dm c.i_ n.M' with
 |some t=>if 0<t.I'.length then⟨2,t.I'⟩else⟨1,[]⟩
 |none=>⟨1,[]⟩
def inP(q:dp)(n:ac):bT:=match dm q.J' n.M' with
 |some f=>if f.Way=1 then⟨2,f.l_⟩else⟨3,[]⟩
 |none=>⟨3,[]⟩
def Tk(g:Int->Int)(p:bT):bT:=if p.Kind=2 then(if p.l_.any (fun c=>decide (g c<0))then⟨1,[]⟩else⟨2,p.l_.map g⟩)else p
def wa(ks:List Int)(c:Int):Int:=(fN ks c).getD (-1)
def PO(es:List bD)(c:Int):Int:=(dD es (di c)).getD (-1)
def SD(a b:bT):bT:=if a.Kind=2/\b.Kind=2/\a.l_=b.l_ then a else⟨1,[]⟩
def wX(q:dp)(c:bo)(n:ac)(a b:bT):bT:=
 if n.Op=1 then Rb c n else if n.Op=9 then inP q n else if n.Op=7 then SD a b else if n.Op=5 then Tk (PO n.N') a else if n.Op=4\/n.Op=10\/n.Op=11 then Tk (wa n.I') a else a
def Zl{r_:Int->Option Int}{g:Int->Int}(h: ∀c,r_ c=some (g c))(z:bT): ∀(l d_:List Int),d_.length+l.length<=100000->pi r_ l d_ z=some (if l.any (fun c=>decide (g c<0))then⟨1,[]⟩else⟨2,d_++l.map g⟩)
 |[],d_,_=>by unfold pi;simp
 |e::tl,d_,hl=>by
  rw [jr]at hl;unfold pi;rw [h,bh,zD];by_cases hr:g e<0
  ·rw [bq (by simpa using hr),zM hr];rfl
  ·rw [aZ (by simpa using hr),cK (by simp;omega),bh,Zl h z tl _ (by simp;omega),zN hr,yG,vi,gJ];rfl
def Zm{r_:Int->Option Int}{g:Int->Int}(h: ∀c,r_ c=some (g c)){p:bT}(hl:p.l_.length<=10000):u5 p r_=some (Tk g p):=by
 unfold u5 Tk;by_cases hk:p.Kind=2
 ·rw [aZ (by simp [hk]),bq hk,Zl h _ p.l_ [] (by simp;omega)];rfl
 ·rw [bq (by simpa using hk),aZ hk]
def Vr(ks:List Int)(c:Int):fN ks c=some (wa ks c):=by
 obtain⟨j,h,_⟩:=zA ks c;unfold wa;rw [h];rfl
def XI(es:List bD)(c:Int):dD es (di c)=some (PO es c):=by
 obtain⟨j,h,_⟩:=D2 (f:=di c) (Hl c) es 0;have h:dD es (di c)=some j:=h;unfold PO;rw [h];rfl
structure LV(q:dp)(c:bo)(n:ac):Prop where
 tab:n.Op=1-> ∃t,dm c.i_ n.M'=some t/\t.I'.length<=1000
 w_:n.Op=9-> ∃f,dm q.J' n.M'=some f/\f.l_.length<=1000
def Xe{q:dp}{c:bo}{KS:List (List (List Int))}{n:ac}(hp:0<=sZ n.Op)(hv:LV q c n){a b:bT}(ha:a.l_.length<=1000):((jC ((ol).getD []) n.Op).bind fun y=>y (some ⟨some ⟨q,c,KS⟩,n,a,b⟩))=some (wX q c n a b):=by
 have hgroup:(n.Op=4\/n.Op=10\/n.Op=11)->jT (some ⟨some ⟨q,c,KS⟩,n,a,b⟩)=some (Tk (wa n.I') a):=fun _=>by
  unfold jT;rw [bh,Zm (g:=wa n.I') (fun x=>by show(fN n.I' x).bind _=_;rw [Vr];rfl) (by show a.l_.length<=_;omega)];rfl
 unfold wX;by_cases D:n.Op=1
 ·obtain⟨t,Y,htl⟩:=hv.tab D;rw [bq D,D];show qH (some ⟨some ⟨q,c,KS⟩,n,a,b⟩)=_;unfold qH Rb;rw [bh,bh,bh,Y,bh];by_cases hk:0<t.I'.length
  ·rw [bq (by simpa using hk),oA _ (by omega),bh];simp only [hk,mF]
  ·rw [aZ (by simpa using hk)];simp only [hk,lS]
 rw [aZ D];by_cases h9:n.Op=9
 ·obtain⟨f,Q,hfl⟩:=hv.w_ h9;rw [bq h9,h9];show p6 (some ⟨some ⟨q,c,KS⟩,n,a,b⟩)=_;unfold p6 inP;rw [bh,bh,bh];show(dm q.J' n.M').bind _=_;rw [Q,bh];by_cases hw:f.Way=1
  ·rw [bq (by simpa using hw),oA _ (by omega),bh];simp only [hw,mF]
  ·rw [aZ (by simpa using hw)];simp only [hw,lS]
 rw [aZ h9];by_cases h7:n.Op=7
 ·rw [bq h7,h7];show p5 (some ⟨some ⟨q,c,KS⟩,n,a,b⟩)=_;unfold p5 SD;rw [bh];by_cases ka:a.Kind=2
  ·by_cases kb:b.Kind=2
   ·have t1:(if(a.Kind==(2:Int))then((some (⟨some ⟨q,c,KS⟩,n,a,b⟩:er)).bind fun p1=>some (p1.b.Kind==(2:Int)))else some false)=some true:=by rw [bq (by simpa using ka),bh];simp [kb]
    show((if(a.Kind==(2:Int))then((some (⟨some ⟨q,c,KS⟩,n,a,b⟩:er)).bind fun p1=>some (p1.b.Kind==(2:Int)))else some false).bind _)=_;rw [t1,bh,bq rfl,bh,bh,tW,bh,bh];by_cases hc:a.l_=b.l_
    ·rw [bq (by simpa using hc),bq ⟨ka,kb,hc⟩];rfl
    ·rw [aZ (by simpa using hc),aZ (fun h=>hc h.2.2)]
   ·have t1:(if(a.Kind==(2:Int))then((some (⟨some ⟨q,c,KS⟩,n,a,b⟩:er)).bind fun p1=>some (p1.b.Kind==(2:Int)))else some false)=some false:=by rw [bq (by simpa using ka),bh];simp [kb]
    show((if(a.Kind==(2:Int))then((some (⟨some ⟨q,c,KS⟩,n,a,b⟩:er)).bind fun p1=>some (p1.b.Kind==(2:Int)))else some false).bind _)=_;rw [t1,bh,aZ (by simp),bh,aZ (by simp),aZ (fun h=>kb h.2.1)]
  ·have t1:(if(a.Kind==(2:Int))then((some (⟨some ⟨q,c,KS⟩,n,a,b⟩:er)).bind fun p1=>some (p1.b.Kind==(2:Int)))else some false)=some false:=aZ (by simpa using ka);show((if(a.Kind==(2:Int))then((some (⟨some ⟨q,c,KS⟩,n,a,b⟩:er)).bind fun p1=>some (p1.b.Kind==(2:Int)))else some false).bind _)=_;rw [t1,bh,aZ (by simp),bh,aZ (by simp),aZ (fun h=>ka h.1)]
 rw [aZ h7];by_cases h5:n.Op=5
 ·rw [bq h5,h5];show oj (some ⟨some ⟨q,c,KS⟩,n,a,b⟩)=_;unfold oj;rw [bh,Zm (g:=PO n.N') (fun x=>by show(dD n.N' (di x)).bind _=_;rw [XI];rfl) (by show a.l_.length<=_;omega)];rfl
 rw [aZ h5];by_cases h4:n.Op=4\/n.Op=10\/n.Op=11
 ·rw [bq h4,<-hgroup h4];rcases h4 with h|h|h<;>(rw [h];rfl)
 rw [aZ h4];by_cases Z:n.Op=3
 ·rw [Z];rfl
 by_cases h6:n.Op=6
 ·rw [h6];rfl
 by_cases h8:n.Op=8
 ·rw [h8];rfl
 by_cases V:n.Op=2
 ·rw [V];rfl
 exfalso;have h10:n.Op≠10:=fun h=>h4 (.inr (.inl h));have h11:n.Op≠11:=fun h=>h4 (.inr (.inr h));have h4' :n.Op≠4:=fun h=>h4 (.inl h);simp [sZ,D,V,Z,h4',h5,h6,h7,h8,h9,h10,h11]at hp
def D7:bT:=⟨0,[]⟩
def FT.pr(q:dp)(c:bo):FT->bT
 | .lf n _=>wX q c n D7 D7
 | .un n _ a=>wX q c n (a.pr q c) D7
 | .bi n _ a b=>wX q c n (a.pr q c) (b.pr q c)
def FT.pl(q:dp)(c:bo):FT->List bT
 | .lf n k=>[FT.pr q c (.lf n k)]
 | .un n k a=>a.pl q c++[FT.pr q c (.un n k a)]
 | .bi n k a b=>a.pl q c++b.pl q c++[FT.pr q c (.bi n k a b)]
def FT.X_(q:dp)(c:bo)(t:FT):(t.pl q c).length=t.size:=by
 induction t with
 |lf n k=>rfl
 |un n k a ih=>simp [FT.pl,FT.size,ih]
 |bi n k a b iha ihb=>simp [FT.pl,FT.size,iha,ihb];omega
def FT.pl_last(q:dp)(c:bo)(t:FT):(t.pl q c)[t.size-1]? =some (t.pr q c):=by
 cases t with
 |lf n k=>rfl
 |un n k a=>
  show(a.pl q c++[_])[a.size+1-1]? =_;rw [sE (by rw [a.X_];omega),a.X_];simp
 |bi n k a b=>
  show((a.pl q c++b.pl q c)++[_])[a.size+b.size+1-1]? =_;rw [sE (by simp [a.X_,b.X_]),jY,a.X_,b.X_];simp
def Kj{q:dp}{c:bo}{n:ac}(hv:LV q c n){a b:bT}(ha:a.l_.length<=1000):(wX q c n a b).l_.length<=1000:=by
 have hm: ∀g,(Tk g a).l_.length<=1000:=fun g=>by
  unfold Tk;split
  ·split
   ·simp
   ·simpa using ha
  ·exact ha
 unfold wX;split
 ·rename_i h;obtain⟨t,Y,htl⟩:=hv.tab h;unfold Rb;rw [Y];simp only;split<;>simp;omega
 split
 ·rename_i h;obtain⟨f,Q,hfl⟩:=hv.w_ h;unfold inP;rw [Q];simp only;split<;>simp;omega
 split
 ·unfold SD;split<;>simp;omega
 split
 ·exact hm _
 split
 ·exact hm _
 ·exact ha
def FT.pr_len{q:dp}{c:bo}(t:FT):(∀n∈t.ns,LV q c n)->(t.pr q c).l_.length<=1000:=by
 induction t with
 |lf n k=>intro h;exact Kj (h n (by simp [FT.ns])) (by simp [D7])
 |un n k a ih=>intro h;exact Kj (h n (by simp [FT.ns])) (ih fun m hm=>h m (uR _ hm))
 |bi n k a b iha ihb=>intro h;exact Kj (h n (by simp [FT.ns])) (iha fun m hm=>h m (uR _ (uR _ hm)))
def LV.root{q:dp}{c:bo}{n:ac}(h:LV q c n)(a b:Int):LV q c (dh n a b):=⟨h.tab,h.w_⟩
def UJ(q:dp)(c:bo)(n:ac)(A B:Int)(a b:bT):wX q c (dh n A B) a b=wX q c n a b:=rfl
section
variable{q:dp}{c:bo}{KS:List (List (List Int))}{f:bt}
def aaC(hat:f.At=1)(t:FT):t.W->(∀n∈t.ns,LV q c n)-> ∀(out:List bT) (post:List ac),out.length+t.size<=1000->
  bu (some ⟨q,c,KS⟩) f ((ol).getD []) (t.flat out.length++post) out=bu (some ⟨q,c,KS⟩) f ((ol).getD []) post (out++t.pl q c):=by
 have fin: ∀(e:ac) (a b:bT) (out:List bT) (post:List ac),0<=sZ e.Op->LV q c e->a.l_.length<=1000->out.length<=1000->iw f ((ol).getD []) (bu (some ⟨q,c,KS⟩) f ((ol).getD []) post) e out ⟨some ⟨q,c,KS⟩,e,a,b⟩=bu (some ⟨q,c,KS⟩) f ((ol).getD []) post (out++[wX q c e a b]):=by
  intro e a b out post D V Z h4;unfold iw;rw [bq (by simp [hat]),Xe D V Z,bh];unfold ll;rw [cK (by simp;omega),bh]
 have last: ∀(t:FT) (out:List bT),dm (out++t.pl q c) ((out.length+t.size:Nat)-1:Int)=some (t.pr q c):=fun t out=>by
  have:=t.pos;rw [show((out.length+t.size:Nat)-1:Int)=((out.length+(t.size-1):Nat):Int) by omega,bR,sE (by omega),show out.length+(t.size-1)-out.length=t.size-1 by omega,t.pl_last]
 induction t with
 |lf n k=>
  intro hW hv out post hl;have hN:=hv n (by simp [FT.ns]);show bu _ f _ (dh n (-1) (-1)::post) out=_
  conv=>lhs;unfold bu
  rw [aZ (by show¬(decide ((0:Int)<= -1)=true);decide)];unfold gq;rw [aZ (by show¬(decide ((0:Int)<= -1)=true);decide)];exact fin (dh n (-1) (-1)) D7 D7 out post (by show 0<=sZ n.Op;rw [hW.1];omega) (hN.root _ _) (by simp [D7]) (by omega)
 |un n k a ih=>
  intro hW hv out post hl;simp only [FT.size]at hl;have hN:=hv n (by simp [FT.ns]);have hva: ∀m∈a.ns,LV q c m:=fun m hm=>hv m (uR _ hm);have hpos:=a.pos;show bu _ f _ ((a.flat out.length++[dh n ((out.length+a.size:Nat)-1:Int) (-1)])++post) out=_;rw [gJ,ih hW.2.2.1 hva out _ (by omega)];show bu _ f _ (dh n ((out.length+a.size:Nat)-1:Int) (-1)::post) (out++a.pl q c)=_
  conv=>lhs;unfold bu
  rw [bq (by show decide ((0:Int)<=(out.length+a.size:Nat)-1)=true;rw [vk];omega)];show(dm (out++a.pl q c) ((out.length+a.size:Nat)-1:Int)).bind _=_;rw [last a out,bh];unfold gq;rw [aZ (by show¬(decide ((0:Int)<= -1)=true);decide)];have:=fin (dh n ((out.length+a.size:Nat)-1:Int) (-1)) (a.pr q c) D7 (out++a.pl q c) post (by show 0<=sZ n.Op;rw [hW.1];omega) (hN.root _ _) (a.pr_len hva) (by simp [a.X_];omega);rw [gJ]at this;exact this
 |bi n k a b iha ihb=>
  intro hW hv out post hl;simp only [FT.size]at hl;have hN:=hv n (by simp [FT.ns]);have hva: ∀m∈a.ns,LV q c m:=fun m hm=>hv m (uR _ (uR _ hm));have hvb: ∀m∈b.ns,LV q c m:=fun m hm=>hv m (uR _ (CR _ hm));have hpa:=a.pos;have hpb:=b.pos;have hol:(out++a.pl q c).length=out.length+a.size:=by rw [jY,a.X_]
  show bu _ f _ ((a.flat out.length++b.flat (out.length+a.size)++[dh n ((out.length+a.size:Nat)-1:Int) ((out.length+a.size+b.size:Nat)-1:Int)])++post) out=_;rw [gJ,gJ,iha hW.2.2.1 hva out _ (by omega),<-hol,ihb hW.2.2.2.1 hvb (out++a.pl q c) _ (by omega),hol];show bu _ f _ (dh n ((out.length+a.size:Nat)-1:Int) ((out.length+a.size+b.size:Nat)-1:Int)::post) (out++a.pl q c++b.pl q c)=_
  conv=>lhs;unfold bu
  rw [bq (by show decide ((0:Int)<=(out.length+a.size:Nat)-1)=true;rw [vk];omega)];have eA:dm (out++a.pl q c++b.pl q c) ((out.length+a.size:Nat)-1:Int)=some (a.pr q c):=by
   have:=last a out;rw [show((out.length+a.size:Nat)-1:Int)=((out.length+a.size-1:Nat):Int) by omega,bR]at this ⊢;rw [lT (by omega)];exact this
  have eB:=last b (out++a.pl q c);rw [hol]at eB;show(dm (out++a.pl q c++b.pl q c) ((out.length+a.size:Nat)-1:Int)).bind _=_;rw [eA,bh];unfold gq;rw [bq (by show decide ((0:Int)<=(out.length+a.size+b.size:Nat)-1)=true;rw [vk];omega)];show(dm (out++a.pl q c++b.pl q c) ((out.length+a.size+b.size:Nat)-1:Int)).bind _=_;rw [eB,bh];have:=fin (dh n ((out.length+a.size:Nat)-1:Int) ((out.length+a.size+b.size:Nat)-1:Int)) (a.pr q c) (b.pr q c) (out++a.pl q c++b.pl q c) post (by show 0<=sZ n.Op;rw [hW.1];omega) (hN.root _ _) (a.pr_len hva) (by simp [a.X_,b.X_];omega);refine Eq.trans this ?_;congr 1;simp [FT.pl,FT.pr,UJ]
def Jj(hat:f.At=2): ∀(l:List ac) (out:List bT),(∀j e,l[j]? =some e->e.A<((out.length+j:Nat):Int)/\e.B<((out.length+j:Nat):Int))->out.length+l.length<=1000->bu (some ⟨q,c,KS⟩) f ((ol).getD []) l out=some (out++List.replicate l.length ⟨4,[]⟩)
 |[],out,_,_=>by unfold bu;simp
 |e::tl,out,h,hl=>by
  rw [jr]at hl;have h0:=h 0 e rfl;have fin: ∀x:er,iw f ((ol).getD []) (bu (some ⟨q,c,KS⟩) f ((ol).getD []) tl) e out x=some (out++List.replicate (tl.length+1) ⟨4,[]⟩):=fun x=>by
   unfold iw;rw [aZ (by simp [hat])];unfold ll;rw [cK (by simp;omega),bh,Jj hat tl (out++[(⟨4,[]⟩:bT)]) (fun j x I=>by
    have:=h (j+1) x (by simpa using I);simp only [jY,Eb];omega) (by simp;omega),gJ]
   rfl
  have k1: ∀x:er,gq f ((ol).getD []) (bu (some ⟨q,c,KS⟩) f ((ol).getD []) tl) e out x=some (out++List.replicate (tl.length+1) ⟨4,[]⟩):=fun x=>by
   unfold gq;by_cases K:0<=e.B
   ·rw [bq (by simpa using K),me e.B.toNat (by omega),qV (by omega),bh];exact fin _
   ·rw [aZ (by simpa using K)];exact fin _
  unfold bu;by_cases ha:0<=e.A
  ·rw [bq (by simpa using ha),me e.A.toNat (by omega),qV (by omega),bh];exact k1 _
  ·rw [aZ (by simpa using ha)];exact k1 _
end
end
section
structure YY(n:ac)(p:bT):Prop where
 grp:n.Op=4\/n.Op=11->p.Kind=2/\ ∀x∈p.l_,x∈n.I'
 dst:n.Op=6->p.Kind=2
 end_:n.Op=8\/n.Op=10->p.Kind≠3
structure SdB(n:ac)(p r:bT)(w:Nat):Prop where
 jn:n.Op=2->qJ n p r (w:Int)=some true
 un:n.Op=7->p.Kind≠3/\r.Kind≠3
def FT.Sd(q:dp)(c:bo):FT->Prop
 | .lf _ _=>True
 | .un n _ a=>YY n (a.pr q c)/\a.Sd q c
 | .bi n _ a b=>SdB n (a.pr q c) (b.pr q c) a.ks.length/\a.Sd q c/\b.Sd q c
def FT.flat_root(t:FT)(s j:Nat)(e:ac)(h:(t.flat s)[j]? =some e)(hj:j+1=t.size):e.Op=t.op:=by
 cases t with
 |lf m k=>
  have hj0:j=0:=by simp only [FT.size]at hj;omega
  subst hj0;have h:some (dh m (-1) (-1))=some e:=h;rw [<-qr h];rfl
 |un m k a=>
  have hj0:j=a.size:=by simp only [FT.size]at hj;omega
  subst hj0;simp only [FT.flat]at h;rw [sE (by rw [a.X'];omega),a.X',pX]at h;have h:some (dh m ((s+a.size:Nat)-1:Int) (-1))=some e:=h;rw [<-qr h];rfl
 |bi m k a b=>
  have hj0:j=a.size+b.size:=by simp only [FT.size]at hj;omega
  subst hj0;simp only [FT.flat]at h;rw [sE (by simp [a.X',b.X']),jY,a.X',b.X',pX]at h;have h:some (dh m ((s+a.size:Nat)-1:Int) ((s+a.size+b.size:Nat)-1:Int))=some e:=h;rw [<-qr h];rfl
def FT.node_at{q:dp}{c:bo}(t:FT):t.W->t.Sd q c-> ∀(s j:Nat) (e:ac),(t.flat s)[j]? =some e->
  (e.A= -1/\sZ e.Op=0)\/
  (∃(n:ac) (x:Nat) (p:bT),e=dh n ((s+x:Nat):Int) (-1)/\sZ n.Op=1/\(t.pl q c)[x]? =some p/\YY n p/\(n.Op=8\/n.Op=10->j+1=t.size))\/
  (∃(n:ac) (x y:Nat) (p r:bT) (k:List Int),e=dh n ((s+x:Nat):Int) ((s+y:Nat):Int)/\sZ n.Op=2/\(t.pl q c)[x]? =some p/\(t.pl q c)[y]? =some r/\t.kl[x]? =some k/\SdB n p r k.length):=by
 induction t with
 |lf n k=>
  intro hW hS s j e h
  match j,h with
  |0,h=>
   have:dh n (-1) (-1)=e:=by simpa [FT.flat] using h
   subst this;exact .inl ⟨rfl,hW.1⟩
  |j+1,h=>simp [FT.flat]at h
 |un n k a ih=>
  intro hW hS s j e h;have hl:=a.X' s;have hp:=a.pos;have hpl:=a.X_ q c;have hkl:=a.kl_len;have up: ∀{x:Nat} {p:bT},(a.pl q c)[x]? =some p->(FT.pl q c (.un n k a))[x]? =some p:=fun{x p} I=>by
   show(a.pl q c++[_])[x]? =_;rw [lT (oC.1 I).1];exact I
  have uk: ∀{x:Nat} {p:List Int},a.kl[x]? =some p->(FT.kl (.un n k a))[x]? =some p:=fun{x p} I=>by
   show(a.kl++[_])[x]? =_;rw [lT (oC.1 I).1];exact I
  simp only [FT.flat]at h;rcases mN j a.size with hj|hj
  ·rw [lT (by omega)]at h;rcases ih hW.2.2.1 hS.2 s j e h with D|⟨m,x,p,D,V,Z,h4,h5⟩|⟨m,x,y,p,r,k',D,V,Z,h4,h5,h6⟩
   ·exact .inl D
   ·refine .inr (.inl ⟨m,x,p,D,V,up Z,h4,fun h8=>?_⟩);have hje:=h5 h8;exfalso;have hna:=hW.2.2.2.1;have:=a.flat_root s j e h hje;have e2:e.Op=m.Op:=by rw [D];rfl
    have:=hna.1;have:=hna.2;omega
   ·exact .inr (.inr ⟨m,x,y,p,r,k',D,V,up Z,up h4,uk h5,h6⟩)
  ·rw [sE (by omega),hl]at h;have hj2:=(oC.1 h).1;simp only [Eb]at hj2;rw [show j-a.size=0 by omega]at h;have:dh n ((s+a.size:Nat)-1:Int) (-1)=e:=by simpa using h
   subst this;exact .inr (.inl ⟨n,a.size-1,a.pr q c,by rw [show((s+a.size:Nat)-1:Int)=((s+(a.size-1):Nat):Int) by omega],hW.1,up (a.pl_last q c),hS.1,fun _=>by simp only [FT.size];omega⟩)
 |bi n k a b iha ihb=>
  intro hW hS s j e h;have hla:=a.X' s;have hlb:=b.X' (s+a.size);have hpa:=a.pos;have hpb:=b.pos;have hpla:=a.X_ q c;have hplb:=b.X_ q c;have hkla:=a.kl_len;have hklb:=b.kl_len;have upa: ∀{x:Nat} {p:bT},(a.pl q c)[x]? =some p->(FT.pl q c (.bi n k a b))[x]? =some p:=fun{x p} I=>by
   have:=(oC.1 I).1;show(a.pl q c++b.pl q c++[_])[x]? =_;rw [lT (by rw [jY];omega),lT this];exact I
  have UC: ∀{x:Nat} {p:bT},(b.pl q c)[x]? =some p->(FT.pl q c (.bi n k a b))[a.size+x]? =some p:=fun{x p} I=>by
   have:=(oC.1 I).1;show(a.pl q c++b.pl q c++[_])[a.size+x]? =_;rw [lT (by rw [jY];omega),sE (by omega),hpla,show a.size+x-a.size=x by omega];exact I
  have uka: ∀{x:Nat} {p:List Int},a.kl[x]? =some p->(FT.kl (.bi n k a b))[x]? =some p:=fun{x p} I=>by
   have:=(oC.1 I).1;show(a.kl++b.kl++[_])[x]? =_;rw [lT (by rw [jY];omega),lT this];exact I
  have ukb: ∀{x:Nat} {p:List Int},b.kl[x]? =some p->(FT.kl (.bi n k a b))[a.size+x]? =some p:=fun{x p} I=>by
   have:=(oC.1 I).1;show(a.kl++b.kl++[_])[a.size+x]? =_;rw [lT (by rw [jY];omega),sE (by omega),hkla,show a.size+x-a.size=x by omega];exact I
  have low: ∀(t:FT),t.nr-> ∀(s j:Nat) (e:ac),(t.flat s)[j]? =some e->j+1=t.size-> ¬(e.Op=8\/e.Op=10):=fun t hn s j e h hje=>by
   have:=t.flat_root s j e h hje;have:=hn.1;have:=hn.2;omega
  simp only [FT.flat]at h;rcases mN j (a.size+b.size)with hj|hj
  ·rw [lT (by simp;omega)]at h;rcases mN j a.size with hj2|hj2
   ·rw [lT (by omega)]at h;rcases iha hW.2.2.1 hS.2.1 s j e h with D|⟨m,x,p,D,V,Z,h4,h5⟩|⟨m,x,y,p,r,k',D,V,Z,h4,h5,h6⟩
    ·exact .inl D
    ·exact .inr (.inl ⟨m,x,p,D,V,upa Z,h4,fun h8=>absurd (show e.Op=8\/e.Op=10 by rw [D];exact h8) (low a hW.2.2.2.2.1 s j e h (h5 h8))⟩)
    ·exact .inr (.inr ⟨m,x,y,p,r,k',D,V,upa Z,upa h4,uka h5,h6⟩)
   ·rw [sE (by omega),hla]at h;rcases ihb hW.2.2.2.1 hS.2.2 _ _ e h with D|⟨m,x,p,D,V,Z,h4,h5⟩|⟨m,x,y,p,r,k',D,V,Z,h4,h5,h6⟩
    ·exact .inl D
    ·exact .inr (.inl ⟨m,a.size+x,p,by rw [D,IN],V,UC Z,h4,fun h8=>absurd (show e.Op=8\/e.Op=10 by rw [D];exact h8) (low b hW.2.2.2.2.2 _ _ e h (h5 h8))⟩)
    ·exact .inr (.inr ⟨m,a.size+x,a.size+y,p,r,k',by rw [D,IN,IN],V,UC Z,UC h4,ukb h5,h6⟩)
  ·rw [sE (by simp;omega)]at h;have hj2:=(oC.1 h).1;simp only [Eb,jY,hla,hlb]at hj2;rw [show j-(a.flat s++b.flat (s+a.size)).length=0 by simp only [jY,hla,hlb];omega]at h;have:dh n ((s+a.size:Nat)-1:Int) ((s+a.size+b.size:Nat)-1:Int)=e:=by simpa using h
   subst this;exact .inr (.inr ⟨n,a.size-1,a.size+(b.size-1),a.pr q c,b.pr q c,a.ks,by rw [show((s+a.size:Nat)-1:Int)=((s+(a.size-1):Nat):Int) by omega,show((s+a.size+b.size:Nat)-1:Int)=((s+(a.size+(b.size-1)):Nat):Int) by omega],hW.1,upa (a.pl_last q c),UC (b.pl_last q c),uka a.kl_last,hS.1⟩)
def Rt(p:Nat){L:List ac}(hAB: ∀(j:Nat) (e:ac),L[j]? =some e->e.A<(j:Int)/\e.B<(j:Int)){n:ac}(hn:L[p+1]? =some n)(hA:n.A=(p:Int)): ∀(k j:Nat),j+k=p+1->cC (jt (p:Int)) (L.drop j) j=some ((p+1:Nat):Int)
 |0,j,h=>by
  have hj:j=p+1:=by omega
  subst hj;have o_:=(oC.1 hn).1;rw [yK o_];have:L[p+1]=n:=by have:=qV o_;rw [hn]at this;exact(qr this).symm
  rw [this];unfold cC jt;rw [bh,bq (by simp [hA])]
 |k+1,j,h=>by
  have hlt0:=(oC.1 hn).1;have o_:j<L.length:=by omega
  rw [yK o_];obtain⟨D,V⟩:=hAB j L[j] (qV o_);unfold cC jt;rw [bh,aZ (by simp;omega)];exact Rt p hAB hn hA k (j+1) (by omega)
def Ru{q:dp}{c:bo}{KS:List (List (List Int))}{i j p:Nat}(hr:Jh (i:Int) q.J' 0=[((j:Int),(p:Int))]){g:bt}(H:q.J'[j]? =some g){t:FT}(Y:g.u'=t.flat 0){n:ac}(hn:g.u'[p+1]? =some n)(hA:n.A=(p:Int)):kD (some ⟨q,c,KS⟩) (i:Int)=some n:=by
 unfold kD;rw [bh,Ub];show((some (match Jh (i:Int) q.J' 0 with|[]=>(0,0,false)|x::_=>(x.1,x.2,true))).bind _)=_;rw [hr,bh,aZ (by simp),bh];show(dm q.J' (j:Int)).bind _=_;rw [bR,H,bh];have:dS g.u' (jt (p:Int))=some ((p+1:Nat):Int):=by
  unfold dS;have:=Rt p (L:=g.u') (fun k e he=>by rw [Y]at he;have:=t.flat_AB 0 k e he;omega) hn hA (p+1) 0 (by omega);rw [vj]at this;exact this
 rw [this,bh,aZ (by simp;omega),bh];show(dm q.J' (j:Int)).bind _=_;rw [bR,H,bh,bR,hn];rfl
def B4(b:List fh): ∀(a:List fh) (i:Nat),a.map (fun g=>g.Tag)=(b.drop i).map (fun g=>g.Tag)->da b lZ a i=some true
 |[],i,_=>rfl
 |g::tl,i,h=>by
  have hi:i<b.length:=by
   rcases mN i b.length with hc|hc
   ·exact hc
   ·rw [FX hc]at h;cases h
  rw [yK hi,vi,vi]at h;injection h with D V;unfold da lZ;rw [bR,qV hi,bh,bh,aZ (by simp [D])];exact B4 b tl (i+1) V
def Uj(b:List px): ∀(i:Nat),eP b (b.drop i) i=some true:=by
 have key: ∀(l:List px) (i:Nat),b.drop i=l->eP b l i=some true:=by
  intro l
  induction l with
  |nil=>intro i _;rfl
  |cons x tl ih=>
   intro i h;obtain⟨D,V,Z⟩:=im h;unfold eP;rw [D,bh,aZ (by simp)];exact ih (i+1) Z
 exact fun i=>key _ i rfl
section
variable{q:dp}{c:bo}{KS:List (List (List Int))}{i:Nat}{f:bt}{t:FT}
def ZR(q:dp)(c:bo)(KS:List (List (List Int)))(i:Nat)(f:bt)(n:ac):Prop:=
 (n.Op=10-> ∃m,kD (some ⟨q,c,KS⟩) (i:Int)=some m/\m.Op=11/\n.L'.map (fun g=>g.Tag)=m.L'.map (fun g=>g.Tag)/\n.I'.length=m.I'.length)/\
 (n.Op=8->f.At=1->f.Way=3/\ ∃m,kD (some ⟨q,c,KS⟩) (i:Int)=some m/\m.Op=8/\m.Z'=n.Z'/\m.Y'=n.Y')
def UT(Q:q.J'[i]? =some f)(Y:f.u'=t.flat 0)(hK:KS[i]? =some t.kl)(hat:f.At=1\/f.At=2)(hW:t.W)(hS:f.At=1->t.Sd q c){l:List bT}(hl:f.At=1->l=t.pl q c){j:Nat}{e:ac}(he:f.u'[j]? =some e)(hE:ZR q c KS i f e):pN (some ⟨q,c,KS⟩) (i:Int) (j:Int) l=some true:=by
 have key:li (some ⟨q,c,KS⟩) (i:Int) l f e=some true:=by
  unfold li;by_cases V:f.At=2
  ·rw [bq (by simp [V])]
  have D:f.At=1:=by omega
  have hl:=hl D;subst hl;rw [Y]at he;rcases t.node_at (q:=q) (c:=c) hW (hS D) 0 j e he with⟨hA,_⟩|⟨n,x,p,rfl,hp,I,hU,_⟩|⟨n,x,y,p,r,k,rfl,hp,I,hy,hk,hB⟩
  ·rw [bq (by rw [hA];simp)]
  ·have Q_:n.Op≠2/\n.Op≠7:=by
    constructor<;>(intro h;rw [h]at hp;exact absurd hp (by decide))
   have hd:(dh n ((0+x:Nat):Int) (-1)).Op=n.Op:=rfl;rw [aZ (by rw [D];show¬(((1:Int)==2)||decide (((0+x:Nat):Int)<0))=true;simp)];show(dm (t.pl q c) ((0+x:Nat):Int)).bind _=_;rw [oZ,bR,I,bh];show(if(n.Op==(2:Int))then _ else if(n.Op==(7:Int))then _ else if(n.Op==(4:Int))then _ else _)=_;rw [aZ (by simpa using Q_.1),aZ (by simpa using Q_.2)];have hgr:n.Op=4\/n.Op=11->tu p n.I'=some true:=fun h=>by
    obtain⟨g1,g2⟩:=hU.grp h;unfold tu;have Q: ∀x,qK n.I' x=some (!(decide (x∈n.I'))):=fun x=>by unfold qK;rw [sa];rfl
    rw [bq (by simp [g1]),iv Q,bh,bh];have:p.l_.any (fun x=> !(decide (x∈n.I')))=false:=by rw [IR];intro x I;simp [g2 x I]
    rw [this];rfl
   have hk2: ∀b:Bool,(b=true->n.Op=4\/n.Op=11)->(b=false->n.Op≠4/\n.Op≠11)->lh (some ⟨q,c,KS⟩) (i:Int) f (dh n ((x:Nat):Int) (-1)) p b=some true:=fun b hb1 hb2=>by
    unfold lh
    cases b with
    |true=>
     rw [bq rfl];show(tu p n.I').bind _=_;rw [hgr (hb1 rfl)];rfl
    |false=>
     rw [aZ (by simp)];show(if(n.Op==(6:Int))then _ else if(n.Op==(10:Int))then _ else if(n.Op==(8:Int))then _ else _)=_;by_cases h6:n.Op=6
     ·rw [bq (by simp [h6]),hU.dst h6];rfl
     rw [aZ (by simpa using h6)];by_cases h10:n.Op=10
     ·rw [bq (by simp [h10])];have:=hU.end_ (.inr h10);simp [this]
     rw [aZ (by simpa using h10)];by_cases h8:n.Op=8
     ·obtain⟨hw,m,g1,g2,g3,g4⟩:=hE.2 h8 D;have g3:m.Z'=n.Z':=g3;have g4:m.Y'=n.Y':=g4;have hk3:=hU.end_ (.inl h8);rw [bq (by simp [h8]),g1,bh];show((if((((p.Kind !=(3:Int))&&(f.Way==(3:Int)))&&(m.Op==(8:Int)))&&(m.Z'==n.Z'))then((hZ m.Y' n.Y').bind fun r3=>some r3)else some false).bind _)=_;have e1:hZ m.Y' n.Y'=some true:=by
       unfold hZ;rw [g4,aZ (by simp)];have:=Uj n.Y' 0;rw [vj]at this;exact this
      rw [bq (by simp [hk3,hw,g2,g3]),e1];rfl
     ·rw [aZ (by simpa using h8)]
   by_cases h4:n.Op=4
   ·rw [bq (by simp [h4])];exact hk2 _ (fun _=> .inl h4) (fun h=>by have:(n.Op==4)=false:=h;simp [h4]at this)
   ·rw [aZ (by simpa using h4)];exact hk2 _ (fun h=> .inr (by have h:(n.Op==11)=true:=h;simpa using h)) (fun h=>⟨h4,by have h:(n.Op==11)=false:=h;simpa using h⟩)
  ·have hA0: ¬(((f.At==(2:Int))||(decide ((dh n ((0+x:Nat):Int) ((0+y:Nat):Int)).A<(0:Int))))=true):=by rw [D];show¬(((1:Int)==2)||decide (((0+x:Nat):Int)<0))=true;simp
   rw [aZ hA0];show(dm (t.pl q c) ((0+x:Nat):Int)).bind _=_;rw [oZ,bR,I,bh];show(if(n.Op==(2:Int))then _ else if(n.Op==(7:Int))then _ else _)=_;by_cases h2' :n.Op=2
   ·rw [bq (by simp [h2'])];show(dm (t.pl q c) ((0+y:Nat):Int)).bind _=_;rw [oZ,bR,hy,bh,bh];show(dm KS (i:Int)).bind _=_;rw [bR,hK,bh];show(dm t.kl ((x:Nat):Int)).bind _=_;rw [bR,hk,bh];show(qJ n p r (k.length:Int)).bind _=_;rw [hB.jn h2'];rfl
   ·have h7:n.Op=7:=by unfold sZ at hp;repeat' split at hp;all_goals omega
    rw [aZ (by simpa using h2'),bq (by simp [h7])];obtain⟨g1,g2⟩:=hB.un h7;have:(p.Kind !=(3:Int))=true:=by simpa using g1
    rw [this,bq rfl];show((((dm (t.pl q c) ((0+y:Nat):Int)).bind fun e6=>some (e6.Kind !=(3:Int)))).bind _)=_;rw [oZ,bR,hy,bh,bh];simp [g2]
 unfold pN;rw [bh];show(dm q.J' (i:Int)).bind _=_;rw [bR,Q,bh,bR,he,bh];by_cases h10:e.Op=10
 ·obtain⟨m,g1,g2,g3,g4⟩:=hE.1 h10;rw [bq (by simp [h10]),g1,bh];have e1:d5 e.L' m.L' lZ=some true:=by
   have hlen:e.L'.length=m.L'.length:=by have:=congrArg List.length g3;simpa using this
   unfold d5;rw [aZ (by simp [hlen])];exact B4 m.L' e.L' 0 (by rw [vj];exact g3)
  rw [e1,bh,aZ (by simp [g2,g4])];exact key
 ·rw [aZ (by simpa using h10)];exact key
end
end
section
structure Ot(q:dp)(c:bo)(KS:List (List (List Int)))(i:Nat)(f:bt)(t:FT):Prop where
 A':f.u'=t.flat 0
 kl:KS[i]? =some t.kl
 h_:f.At=1\/f.At=2
 W:t.W
 sd:f.At=1->t.Sd q c/\(t.pr q c).Kind≠3
 lv: ∀n∈t.ns,LV q c n
 end_: ∀e∈f.u',ZR q c KS i f e
 size:t.size<=60
section
variable{q:dp}{c:bo}{KS:List (List (List Int))}{i:Nat}{f:bt}{t:FT}
def Ot.props(h:Ot q c KS i f t)(Q:q.J'[i]? =some f): ∃l,lA (some ⟨q,c,KS⟩) (i:Int)=some l/\(f.At=1->l=t.pl q c)/\l.length=t.size/\ ∃p,l[t.size-1]? =some p/\p.Kind≠3:=by
 have hpos:=t.pos;have k_:=h.size;have hfl:=t.X' 0;have hpl:=t.X_ q c;have e: ∀r,bu (some ⟨q,c,KS⟩) f ((ol).getD []) f.u' []=some r->lA (some ⟨q,c,KS⟩) (i:Int)=some r:=fun r hr=>by
  unfold lA;rw [bh];show(dm q.J' (i:Int)).bind _=_;rw [bR,Q,bh];exact hr
 rcases h.h_ with D|V
 ·have:=aaC (q:=q) (c:=c) (KS:=KS) D t h.W h.lv [] [] (by simp;omega);rw [yH,lz]at this;refine⟨t.pl q c,e _ (by rw [h.A'];exact this.trans rfl),fun _=>rfl,hpl,t.pr q c,t.pl_last q c,(h.sd D).2⟩
 ·have:=Jj (q:=q) (c:=c) (KS:=KS) V f.u' [] (fun j x I=>by rw [h.A']at I;have:=t.flat_AB 0 j x I;simpa using this) (by rw [h.A'];simp;omega);rw [lz,h.A',hfl,<-h.A']at this;refine⟨_,e _ this,fun D=>by omega,by simp,⟨4,[]⟩,?_,by decide⟩;rw [List.getElem?_replicate,bq (by omega)]
def N8(Q:q.J'[i]? =some f)(h:Ot q c KS i f t){l:List bT}(hl:f.At=1->l=t.pl q c)(hll:l.length=t.size){p:bT}(hp:l[t.size-1]? =some p)(hp3:p.Kind≠3)(r:Option df×Int×Int×Int)(hr:r.1=some ⟨q,c,KS⟩)(nx:Nat->Int->Int->Option (Int×Int×Int))(x y:Int):
  ∀(tl:List ac) (j:Nat),f.u'.drop j=tl->qh r nx i l tl j x y=nx (i+1) x y:=by
 have hpos:=t.pos;have k_:=h.size;intro tl
 induction tl with
 |nil=>
  intro j hd;unfold qh;rw [hll,cJ (by omega) (by omega),show(t.size:Int)-1=((t.size-1:Nat):Int) by omega,bR,hp,bh,aZ (by simpa using hp3)]
 |cons e tl ih=>
  intro j hd;obtain⟨D,V,Z⟩:=im hd;rw [bR]at D;unfold qh;rw [hr,UT Q h.A' h.kl h.h_ h.W (fun D=>(h.sd D).1) hl D (h.end_ e (ud D)),bh,aZ (by simp)];exact ih (j+1) Z
end
def Ww{q:dp}{c:bo}{KS:List (List (List Int))}(hc:CB c)(h:H6 c q KS)(hF: ∀(i:Nat) (f:bt),q.J'[i]? =some f-> ∃t,Ot q c KS i f t):ul q c=some (0,0,0):=by
 unfold ul;rw [N2 hc h,bh,aZ (by simp)];have key: ∀(tl:List bt) (i:Nat),q.J'.drop i=tl->qi (some ⟨q,c,KS⟩,0,0,0) tl i (-1) 0=some (0,0,0):=by
  intro tl
  induction tl with
  |nil=>intro i _;rfl
  |cons f tl ih=>
   intro i hd;obtain⟨D,V,Z⟩:=im hd;rw [bR]at D;obtain⟨t,hT⟩:=hF i f D;obtain⟨l,g1,g2,g3,p,g4,g5⟩:=hT.props D;unfold qi;show(lA (some ⟨q,c,KS⟩) (i:Int)).bind _=_;rw [g1,bh,N8 D hT g2 g3 g4 g5 _ rfl _ _ _ f.u' 0 rfl];exact ih (i+1) Z
 exact key q.J' 0 rfl
end
section
def FT.rt:FT->ac
 | .lf n _=>n
 | .un n _ _=>n
 | .bi n _ _ _=>n
def FT.op_rt(t:FT):t.op=t.rt.Op:=by cases t<;>rfl
def vO(h:List Int):bT:=if h=[]then⟨1,[]⟩else⟨2,h⟩
def Fl(h:List Int):(vO h).Kind≠3:=by
 unfold vO;split
 ·show(1:Int)≠3;decide
 ·show(2:Int)≠3;decide
def vy(e:ac)(o:Option ac):Prop:=
 (e.Op=10-> ∃n,o=some n/\n.Op=11/\e.L'.map (fun g=>g.Tag)=n.L'.map (fun g=>g.Tag)/\e.I'.length=n.I'.length)/\
 (e.Op=8-> ∃n,o=some n/\n.Op=8/\n.Z'=e.Z'/\n.Y'=e.Y')
def Uu(fs:List bt)(ts:List FT)(h_:Int)(m:ac)(o:Option ac):Prop:=
 m.Op=9-> ∃(k:Nat) (f:bt) (t:FT),m.M'=(k:Int)/\fs[k]? =some f/\ts[k]? =some t/\m.U'=t.ks/\(f.Way=3↔h_=2)/\vy t.rt o
def vy.none{e:ac}(h:vy e none)(o:Option ac):vy e o:=⟨fun D=>(by obtain⟨n,V,_⟩:=h.1 D;cases V),fun D=>(by obtain⟨n,V,_⟩:=h.2 D;cases V)⟩
def vy.of{e:ac}(h:e.Op≠8/\e.Op≠10)(o:Option ac):vy e o:=⟨fun D=>absurd D h.2,fun D=>absurd D h.1⟩
def Uu.none{fs:List bt}{ts:List FT}{h_:Int}{m:ac}(h:Uu fs ts h_ m none)(o:Option ac):Uu fs ts h_ m o:=fun h9=>by
 obtain⟨k,f,t,D,V,Z,h4,h5,h6⟩:=h h9;exact⟨k,f,t,D,V,Z,h4,h5,h6.none o⟩
def Uu.more{fs:List bt}{ts:List FT}{h_:Int}{m:ac}{o:Option ac}(h:Uu fs ts h_ m o)(l:List bt)(l' :List FT):Uu (fs++l) (ts++l') h_ m o:=fun h9=>by
 obtain⟨k,f,t,D,V,Z,h4⟩:=h h9;exact⟨k,f,t,D,by rw [lT (oC.1 V).1];exact V,by rw [lT (oC.1 Z).1];exact Z,h4⟩
def QA(c:bo)(n:ac):Prop:= ∃tb,0<=n.M'/\dm c.i_ n.M'=some tb/\n.U'=tb.b_.map (fun x=>x.Kind)/\tb.I'.length<=10
structure rO(c:bo)(fs:List bt)(ts:List FT)(s:be)(t:FT):Prop where
 A':s.A'=t.flat 0
 ks:t.ks=s.j'
 W:t.W
 h_:s.h_=1\/s.h_=2
 four:(4:Int)∉s.j'
 kn:1<=s.j'.length/\s.j'.length<=16
 hin: ∀x∈s.V',∃k:Nat,x=(k:Int)/\k<s.j'.length
 hl:s.V'.length<=16
 leaf: ∀n∈t.ns,n.Op=1->s.h_=1/\QA c n
 up:t.Up (Uu fs ts s.h_)
 ly:s.h_=1-> ∀q:dp,(∃l,q.J'=fs++l)->t.pr q c=vO s.V'/\t.Sd q c
 size:t.size<=400
structure QH(c:bo)(fs:List bt)(ts:List FT)(f:bt)(t:FT):Prop where
 A':f.u'=t.flat 0
 W:t.W
 h_:f.At=1\/f.At=2
 way:1<=f.Way/\f.Way<=3
 d_:f.Way=1↔0<f.l_.length
 inr: ∀x∈f.l_,∃k:Nat,x=(k:Int)/\ ∃r,t.ks[k]? =some r/\r≠4
 clen:f.l_.length<=16
 leaf: ∀n∈t.ns,n.Op=1->f.At=1/\QA c n
 up:t.Up (Uu fs ts f.At)
 ly:f.At=1-> ∀q:dp,(∃l,q.J'=fs++l)->t.Sd q c/\(t.pr q c).Kind≠3
 srt:t.op=8->f.At=1->f.Way=3
structure Lay(c:bo)(fs:List bt)(ts:List FT):Prop where
 len:ts.length=fs.length
 h_: ∀(i:Nat) (f:bt),fs[i]? =some f-> ∃t,ts[i]? =some t/\QH c (fs.take i) (ts.take i) f t
section
variable{c:bo}{fs:List bt}{ts:List FT}{s:be}{t:FT}
def rO.more(h:rO c fs ts s t)(l:List bt)(l' :List FT):rO c (fs++l) (ts++l') s t:=
 ⟨h.A',h.ks,h.W,h.h_,h.four,h.kn,h.hin,h.hl,h.leaf,h.up.mono fun m o _ hm=>hm.more l l',fun D q ⟨x,I⟩=>h.ly D q ⟨l++x,by rw [I,gJ]⟩,h.size⟩
def Lay.nil(c:bo):Lay c [] []:=⟨rfl,fun i f h=>by simp at h⟩
def Lay.snoc(h:Lay c fs ts){f:bt}(Q:QH c fs ts f t):Lay c (fs++[f]) (ts++[t]):=by
 have hlen:=h.len;refine⟨by simp [hlen],fun i g H=>?_⟩;rcases mN i fs.length with hi|hi
 ·rw [lT hi]at H;obtain⟨x,D,V⟩:=h.h_ i g H;refine⟨x,by rw [lT (by omega)];exact D,?_⟩;rw [Bu (by omega),Bu (by omega)];exact V
 ·have hi2:=(oC.1 H).1;simp only [jY,Eb]at hi2;have:i=fs.length:=by omega
  subst this;rw [sE (eX _),pX]at H;have H:some f=some g:=H;cases H;refine⟨t,by rw [<-hlen,sE (eX _),pX];rfl,?_⟩;rw [List.take_left' rfl,List.take_left' hlen];exact Q
def rO.laid(h:rO c fs ts s t)(hn:t.nr){way:Int}(hw:1<=way/\way<=3){d_:List Int}(hc:way=1↔0<d_.length)(hin: ∀x∈d_,∃k:Nat,x=(k:Int)/\k<s.j'.length)(hl:d_.length<=16):QH c fs ts ⟨s.A',s.h_,way,d_⟩ t where
 A':=h.A'
 W:=h.W
 h_:=h.h_
 way:=hw
 d_:=hc
 inr:=fun x I=>by
  obtain⟨k,D,V⟩:=hin x I;rw [<-h.ks]at V;exact⟨k,D,_,qV V,fun e=>h.four (by rw [<-h.ks,<-e];exact zW V)⟩
 clen:=hl
 leaf:=h.leaf
 up:=h.up
 ly:=fun D q hq=>by
  obtain⟨g1,g2⟩:=h.ly D q hq;exact⟨g2,by rw [g1];exact Fl _⟩
 srt:=fun h8=>absurd h8 hn.1
def VE{c:bo}{k:Nat}(hk:k<30){ks:List Int}(D:1<=ks.length)(V:ks.length<=16)(Z: ∀x∈ks,0<=x/\x<=4):(FT.lf (kX k ks) ks).W:=by
 refine⟨rfl,rfl,⟨by simp [kX],by simp [kX];omega,by simp [kX],by simp [kX],by simp [kX],by simp [kX],fun g H=>(by simp [kX]at H),fun g H=>(by simp [kX]at H)⟩,fun A B l _ _=>?_,V,.inr ⟨by simp,by simp⟩⟩;show jU (xL l (dh (kX k ks) A B) [] [])=_;rw [PP];have:VB (dh (kX k ks) A B)=true:=by
  unfold VB;simp only [jJ,vk,o0];refine⟨⟨⟨⟨?_,?_⟩,?_⟩,?_⟩,fun x I=>Z x I⟩
  ·show(0:Int)<=(k:Int);omega
  ·show(k:Int)<30;omega
  ·show(1:Int)<=(ks.length:Int);omega
  ·show(ks.length:Int)<=16;omega
 show some (VB (dh (kX k ks) A B),_)=_;rw [this];rfl
def rO.send(h:rO c fs ts s t)(hL:Lay c fs ts)(hn:t.nr)(hfl:fs.length<30)(h4: ∀x∈s.j',0<=x/\x<=4){way:Int}(hw:way=1\/way=3){d_:List Int}(hc:way=1↔0<d_.length)(hin: ∀x∈d_,∃k:Nat,x=(k:Int)/\k<s.j'.length)(hl:d_.length<=16):
  Lay c (nR s way d_ fs) (ts++[t])/\rO c (nR s way d_ fs) (ts++[t]) (lg s way d_ fs) (.lf (kX fs.length s.j') s.j'):=by
 have hlen:=hL.len;refine⟨hL.snoc (h.laid hn (by omega) hc hin hl),rfl,rfl,VE (c:=c) hfl h.kn.1 h.kn.2 h4,?_,h.four,h.kn,hin,hl,fun n hn D=>?_,?_,fun D q ⟨l,hq⟩=>?_,by simp [FT.size]⟩
 ·unfold lg;by_cases hw3:way=3<;>simp [hw3]
 ·have:n=kX fs.length s.j':=by simpa [FT.ns] using hn
  subst this;exact absurd D (by show(9:Int)≠1;decide)
 ·intro _;refine⟨fs.length,⟨s.A',s.h_,way,d_⟩,t,rfl,?_,?_,h.ks.symm,?_,.of ⟨by rw [<-t.op_rt];exact hn.1,by rw [<-t.op_rt];exact hn.2⟩ _⟩
  ·unfold nR;rw [sE (eX _),pX];rfl
  ·rw [<-hlen,sE (eX _),pX];rfl
  ·show way=3↔(if way=3 then(2:Int)else 1)=2;by_cases hw3:way=3<;>simp [hw3]
 ·refine⟨?_,trivial⟩;have hw1:way=1:=by
   rcases hw with h|h
   ·exact h
   ·unfold lg at D;rw [bq h]at D;cases D
  have hq' :dm q.J' ((fs.length:Nat):Int)=some ⟨s.A',s.h_,way,d_⟩:=by
   rw [hq,bR];unfold nR;rw [gJ,sE (eX _),pX];rfl
  show wX q c (kX fs.length s.j') D7 D7=vO d_;unfold wX inP;rw [aZ (by show¬((9:Int)=1);decide),bq (by rfl)];show(match dm q.J' ((fs.length:Nat):Int)with|some f=>if f.Way=1 then(⟨2,f.l_⟩:bT)else⟨3,[]⟩|none=>⟨3,[]⟩)=_;rw [hq'];show(if way=1 then(⟨2,d_⟩:bT)else⟨3,[]⟩)=_;rw [bq hw1];unfold vO;rw [aZ (by intro e;rw [e]at hc;simp at hc;exact hc hw1)]
def rO.q_(h:rO c fs ts s t)(hn:t.nr){n:ac}{k:List Int}(hp:sZ n.Op=1)(hN:NW n s.j' [] k)(h11:n.Op≠11)(h4:(4:Int)∉k)(hk:1<=k.length/\k.length<=16){hd:List Int}(hin: ∀x∈hd,∃j:Nat,x=(j:Int)/\j<k.length)(hl:hd.length<=16)(k_:t.size<=399)
  (hly:s.h_=1->(∀q:dp,wX q c n (vO s.V') D7=vO hd)/\YY n (vO s.V')):rO c fs ts (iO (q_ n k s) hd) (.un n k t) where
 A':=by
  show s.A'++[dh n ((s.A'.length:Int)-1) (-1)]=t.flat 0++[dh n ((0+t.size:Nat)-1:Int) (-1)];rw [h.A',t.X',oZ]
 ks:=rfl
 W:=⟨hp,by rw [h.ks];exact hN,h.W,hn,fun h=>absurd h h11⟩
 h_:=h.h_
 four:=h4
 kn:=hk
 hin:=hin
 hl:=hl
 leaf:=fun m hm D=>by
  rcases oO.1 hm with hm|hm
  ·exact h.leaf m hm D
  ·have:m=n:=by simpa using hm
   subst this;rw [D]at hp;exact absurd hp (by decide)
 up:=h.up.un fun m q e=>by
  have:=h.up;rw [e]at this;exact Uu.none this (some n)
 ly:=fun D q hq=>by
  obtain⟨g1,g2⟩:=h.ly D q hq;obtain⟨g3,g4⟩:=hly D;refine⟨?_,by show YY n (t.pr q c)/\_;rw [g1];exact⟨g4,g2⟩⟩;show wX q c n (t.pr q c) D7=_;rw [g1];exact g3 q
 size:=by simp only [FT.size];omega
def rO.V_{a b:be}{ta tb:FT}(ha:rO c fs ts a ta)(K:rO c fs ts b tb)(hna:ta.nr)(hnb:tb.nr)(hat:a.h_=b.h_){n:ac}{k:List Int}(hp:sZ n.Op=2)(hN:NW n a.j' b.j' k)(h4:(4:Int)∉k)(hk:1<=k.length/\k.length<=16){hd:List Int}(hin: ∀x∈hd,∃j:Nat,x=(j:Int)/\j<k.length)(hl:hd.length<=16)(k_:ta.size+tb.size<=399)
  (hly:a.h_=1->(∀q:dp,wX q c n (vO a.V') (vO b.V')=vO hd)/\SdB n (vO a.V') (vO b.V') a.j'.length):rO c fs ts (iO (V_ n k a b) hd) (.bi n k ta tb) where
 A':=by
  show(a.A'++b.A'.map (xf (a.A'.length:Int)))++[dh n ((a.A'.length:Int)-1) ((a.A'.length:Int)+(b.A'.length:Int)-1)]=ta.flat 0++tb.flat (0+ta.size)++[dh n ((0+ta.size:Nat)-1:Int) ((0+ta.size+tb.size:Nat)-1:Int)];rw [ha.A',K.A',ta.X',tb.X',tb.flat_sh (d:=ta.size) (by omega) 0 (by omega),wV,oZ];rw [show((ta.size+tb.size:Nat):Int)=(ta.size:Int)+(tb.size:Int) by omega]
 ks:=rfl
 W:=⟨hp,by rw [ha.ks,K.ks];exact hN,ha.W,K.W,hna,hnb⟩
 h_:=ha.h_
 four:=h4
 kn:=hk
 hin:=hin
 hl:=hl
 leaf:=fun m hm D=>by
  rcases oO.1 hm with hm|hm
  ·rcases oO.1 hm with hm|hm
   ·exact ha.leaf m hm D
   ·have:=K.leaf m hm D;exact⟨hat.trans this.1,this.2⟩
  ·have:m=n:=by simpa using hm
   subst this;rw [D]at hp;exact absurd hp (by decide)
 up:=⟨ha.up,by have:=K.up;rw [<-hat]at this;exact this⟩
 ly:=fun D q hq=>by
  obtain⟨g1,g2⟩:=ha.ly D q hq;obtain⟨g3,g4⟩:=K.ly (by have D:a.h_=1:=D;rw [<-hat];exact D) q hq;obtain⟨g5,g6⟩:=hly D;refine⟨?_,by show SdB n (ta.pr q c) (tb.pr q c) ta.ks.length/\_;rw [g1,g3,ha.ks];exact⟨g6,g2,g4⟩⟩;show wX q c n (ta.pr q c) (tb.pr q c)=_;rw [g1,g3];exact g5 q
 size:=by simp only [FT.size];omega
end
end
section
def aaH{n:ac}(hs:d9 n)(p_:F7 n.Op=true)(ho:ye n=true){a b k:List Int}(ha:K3 a)(K:K3 b)(hal:a.length<=16)(hbl:b.length<=16)(hk:ba n a b=some (k,true))(hkl:k.length<=16):NW n a b k where
 own:=by rw [Xt p_];exact ho
 sm:=hs
 ask:=fun A B l _ hl=>by
  obtain⟨ok,R,o,k',D,V,Z⟩:=aaK hl (l:=xL l (dh n A B) a b) p_;have V:ba (dh n A B) a b=some (k',o):=V;have e:ba (dh n A B) a b=ba n a b:=Vt hs p_ A B hal hbl;rw [e,hk]at V;cases V;obtain⟨h4,h5⟩:=Z;have:decide (k.length<=16)=true:=by simpa using hkl
  rw [this,IM]at h4;have hR:=h5 h4;rw [jJ]at h4;rw [h4.1,hR]at D;exact D
 len:=hkl
 four:= .inr ⟨ha.four,K.four⟩
def Kh(nk:Nat)(z_:List fh)(i:Nat)(k:Int):Int:=if nk<=i/\(z_[i-nk]?).map fh.Tag=some 3 then 4 else k
def gk(nk:Nat)(z_:List fh):List Int->Nat->List Int
 |[],_=>[]
 |k::ks,i=>Kh nk z_ i k::gk nk z_ ks (i+1)
def AW(nk:Nat)(z_:List fh): ∀(ks:List Int) (i:Nat),(gk nk z_ ks i).length=ks.length
 |[],_=>rfl
 |k::ks,i=>by unfold gk;rw [jr,jr,AW nk z_ ks (i+1)]
def yQ(nk:Nat)(z_:List fh)(b:List Int): ∀(a:List Int) (i:Nat),gk nk z_ (a++b) i=gk nk z_ a i++gk nk z_ b (i+a.length)
 |[],i=>rfl
 |k::a,i=>by
  show Kh nk z_ i k::gk nk z_ (a++b) (i+1)=(Kh nk z_ i k::gk nk z_ a (i+1))++gk nk z_ b (i+(k::a).length);rw [yQ nk z_ b a (i+1),show i+1+a.length=i+(k::a).length by simp;omega];rfl
def B9(nk:Nat)(z_:List fh): ∀(ks:List Int) (i:Nat),i+ks.length<=nk->gk nk z_ ks i=ks
 |[],_,_=>rfl
 |k::ks,i,h=>by
  rw [jr]at h;unfold gk Kh;rw [aZ (by omega),B9 nk z_ ks (i+1) (by omega)]
def IZ(nk:Nat)(z_:List fh): ∀(ks:List Int) (i:Nat) (x:Int),x∈gk nk z_ ks i->x∈ks\/x=4
 |[],_,x,h=>by cases h
 |k::ks,i,x,h=>by
  unfold gk at h;rcases iI.1 h with h|h
  ·unfold Kh at h;split at h
   ·exact .inr h
   ·exact .inl (by rw [h];exact pz ..)
  ·exact(IZ nk z_ ks (i+1) x h).imp (pA _) id
def Bx(a:List Int)(g:fh):Int:=if g.Tag=3 then 4 else(zx g a).1
def GU(nk:Nat)(z_:List fh)(a:List Int): ∀(gs:List fh) (i:Nat),z_.drop i=gs->gk nk z_ (gs.map fun g=>(zx g a).1) (nk+i)=gs.map (Bx a)
 |[],_,_=>rfl
 |g::gs,i,h=>by
  have hk:i<z_.length:=by
   rcases mN i z_.length with D|D
   ·exact D
   ·rw [FX D]at h;cases h
  rw [yK hk]at h;injection h with D V;show Kh nk z_ (nk+i) (zx g a).1::gk nk z_ (gs.map fun g=>(zx g a).1) (nk+i+1)=Bx a g::gs.map (Bx a);rw [IN,GU nk z_ a gs (i+1) V];congr 1;unfold Kh Bx;rw [Nat.add_sub_cancel_left,qV hk,D];simp
section
variable{n:ac}{j':List Int}
def Hr: ∀(tl:List fh) (j:Nat) (pre rest:List Int),n.L'.drop j=tl->pre.length=n.I'.length+j->rest.length=tl.length->pre.length+tl.length<=10000->
  ii n tl j (pre++rest)=some (pre++gk n.I'.length n.L' rest (n.I'.length+j))
 |[],j,pre,rest,_,_,hr,_=>by
  have:rest=[]:=uS hr;subst this;rfl
 |g::tl,j,pre,r::rest,hd,hp,hr,D=>by
  rw [jr]at D;have hk:j<n.L'.length:=by
   rcases mN j n.L'.length with h|h
   ·exact h
   ·rw [FX h]at hd;cases hd
  rw [yK hk]at hd;injection hd with hn' hd;have H:n.L'[j]? =some g:=by rw [qV hk,hn']
  have ih:=fun v:Int=>Hr tl (j+1) (pre++[v]) rest hd (by simp;omega) (by simpa using hr);have e:i64.wrap ((n.I'.length:Int)+(j:Int))=(pre.length:Int):=by rw [cJ (by omega) (by omega)];omega
  have hv:Kh n.I'.length n.L' (n.I'.length+j) r=if g.Tag=3 then 4 else r:=by
   unfold Kh;rw [Nat.add_sub_cancel_left,H];simp
  unfold ii gk;rw [hv,e];by_cases Z:g.Tag=3
  ·rw [bq (by simpa using Z),bq Z,bR,sE (eX _),pX];show ii n tl (j+1) ((pre++r::rest).set (pre.length:Int).toNat 4)=_;rw [yJ,IU _ _ (eX _),pX,List.set_cons_zero,<-QQ,<-gJ,ih 4 (by simp;omega),gJ];rfl
  ·rw [aZ (by simpa using Z),aZ Z,<-QQ,<-gJ,ih r (by simp;omega),gJ];rfl
def Fp(hk:j'.length=n.I'.length+n.L'.length)(hl:j'.length<=1000):ii n n.L' 0 j'=some (gk n.I'.length n.L' j' 0):=by
 have:=Hr (n:=n) n.L' 0 (j'.take n.I'.length) (j'.drop n.I'.length) (by simp) (by simp;omega) (by simp;omega) (by simp;omega);rw [vn]at this;rw [this,wV];have V:=yQ n.I'.length n.L' (j'.drop n.I'.length) (j'.take n.I'.length) 0;rw [vn,B9 n.I'.length n.L' (j'.take n.I'.length) 0 (by simp;omega)]at V;rw [V];congr 3;simp;omega
def Pv(hk:j'.length=n.I'.length+n.L'.length)(hl:j'.length<=1000):tz n j'=some (gk n.I'.length n.L' j' 0):=by
 unfold tz;rw [xB _ (by omega),bh];exact Fp hk hl
def ze{l:ap}: ∀(gs:List fh) (i:Nat) (R:List Int),fQ gs i {l with B':=R}=(ii l.n gs i R).map fun R' =>(true,{l with B':=R' })
 |[],i,R=>rfl
 |g::tl,i,R=>by
  unfold fQ ii;by_cases Z:g.Tag=3
  ·rw [bq (by simpa using Z),bq (by simpa using Z)];show((dm R (i64.wrap ((l.n.I'.length:Int)+(i:Int)))).bind _)=_
   cases dm R (i64.wrap ((l.n.I'.length:Int)+(i:Int)))with
   |none=>rfl
   |some x=>exact ze tl (i+1) _
  ·rw [aZ (by simpa using Z),aZ (by simpa using Z)];exact ze tl (i+1) R
def j6(n:ac):ac:=ac.mk (10:Int) n.A n.B n.M' n.U' n.Left n.f_ n.I' n.L' n.N' n.Y' n.Z'
def d9.n10{n:ac}(h:d9 n):d9 (j6 n):=⟨h.cond,h.j',h.keys,h.z_,h.items,h.order,h.args,h.exprs⟩
structure WD(n:ac)(a k:List Int):Prop where
 eq:k=n.I'.map (Gv a)++n.L'.map (fun e=>(zx e a).1)
 keys: ∀x∈n.I',u7 a x=false
 z_: ∀g∈n.L',(zx g a).2=true
 nk:n.I'.length<=3
 na:n.L'.length<=12
def aaN{a b k:List Int}(hs:d9 n)(p_:n.Op=4)(hk:ba n a b=some (k,true)):WD n a k:=by
 rw [rk4 hs p_]at hk;split at hk
 ·cases hk
 ·rename_i hany;injection hk with hk;injection hk with D V;simp only [jJ,o0,vk]at V;refine⟨D.symm,fun x I=>?_,fun g H=>V.1.1.1 g H,by omega,by omega⟩
  cases ho:u7 a x with
  |false=>rfl
  |true=>exact absurd (zO.2 ⟨x,I,ho⟩) hany
def WD.len{a k:List Int}(h:WD n a k):k.length=n.I'.length+n.L'.length:=by rw [h.eq];simp
def WD.under{a k:List Int}(h:WD n a k):gk n.I'.length n.L' k 0=n.I'.map (Gv a)++n.L'.map (Bx a):=by
 rw [h.eq,yQ,B9 _ _ _ _ (by simp),BG,oZ];have:=GU n.I'.length n.L' a n.L' 0 (by simp);rw [wV]at this;rw [this]
def acO(hs:d9 n)(p_:n.Op=4)(ho:ye n=true){a k:List Int}(ha:K3 a)(hal:a.length<=16)(hk:ba n a []=some (k,true))(hkl:k.length<=16):NW (j6 n) a [] (gk n.I'.length n.L' k 0) where
 own:=by
  rw [Rj (.inl rfl)];have:({j6 n with Op:=4}:ac)=n:=by show ac.mk (4:Int) n.A n.B n.M' n.U' n.Left n.f_ n.I' n.L' n.N' n.Y' n.Z'=n;rw [<-p_]
  rw [this];exact ho
 sm:=hs.n10
 ask:=fun A B l _ hl=>by
  have hG:=aaN hs p_ hk;obtain⟨ok,R,o,k',D,V,Z,h4⟩:=HI (l:=xL l (dh (j6 n) A B) a []) hl p_ hs rfl rfl [];have V:ba n a []=some (k',o):=V;rw [hk]at V;cases V;have h4:=(h4 Z).1;rw [h4,Z]at D;show jA (xL l (dh (j6 n) A B) a [])=_;unfold jA;rw [D,bh,aZ (by simp)];show fQ n.L' 0 {xL l (dh (j6 n) A B) a []with B':=k}=_;rw [ze];show Option.map _ (ii (dh (j6 n) A B) (dh (j6 n) A B).L' 0 k)=_;rw [Fp (n:=dh (j6 n) A B) (j':=k) hG.len (by omega)];rfl
 len:=by rw [AW];exact hkl
 four:= .inr ⟨ha.four,by simp⟩
def qa(l:List fh):List fh:=l.map fun g=>⟨g.Tag,⟨[]⟩⟩
def rk(n:ac)(done:List fh):ac:=⟨11,0,0,0,[],false,⟨[]⟩,kG n.I'.length,done,[],[],0⟩
def aaU{a:List Int}(ha:K3 a){g:fh}(h:(zx g a).2=true):fk ⟨g.Tag,⟨[]⟩⟩ (Bx a g)=((zx g a).1,true):=by
 have Z:=ZJ h;obtain⟨e1,e2⟩:=DO g a;rw [h]at e1;have e2:=e2 e1;have e0:(((⟨g.Tag,⟨[]⟩⟩:fh).N_.u'.length:Int)==0)=true:=rfl;unfold fk Bx;rw [e0];show(if g.Tag=1\/g.Tag=2 then _ else if g.Tag=3 then _ else if g.Tag=4\/g.Tag=5 then _ else _)=_;unfold FK at e1 e2;by_cases D:g.Tag=1
 ·rw [bq D]at e2;rw [bq (.inl D),aZ (by omega),<-e2];rfl
 rw [aZ D]at e1 e2;by_cases h33:g.Tag=3
 ·rw [bq h33]at e2;rw [aZ (by omega),bq h33,bq h33,<-e2];rfl
 rw [aZ h33]at e1 e2;by_cases h45:g.Tag=4\/g.Tag=5
 ·rw [aZ (by omega),aZ h33,bq h45,aZ h33];have:((zx g a).1 !=4)=true:=by simp;omega
  rw [this];rfl
 rw [aZ h45]at e1 e2;simp only [jJ,vk]at e1;have V:g.Tag=2:=by omega
 rw [bq (.inr V),aZ h33,<-e2];rfl
def JB(a:List Int): ∀(k i:Nat),(∀j,j<i+k-> ∃x,a[j]? =some x/\x≠4)->PJ a ((List.range' i k).map fun(j:Nat)=>(j:Int)) i=true
 |0,i,_=>rfl
 |k+1,i,h=>by
  rw [List.range'_succ,vi];unfold PJ;obtain⟨x,D,V⟩:=h i (by omega);rw [D,JB a k (i+1) fun j hj=>h j (by omega)];simp [V]
def acN(hs:d9 n)(p_:n.Op=4){a k:List Int}(ha:K3 a)(hk:ba n a []=some (k,true))(hkl:k.length<=16):NW (rk n (qa n.L')) (gk n.I'.length n.L' k 0) [] k:=by
 have hG:=aaN hs p_ hk;have hnk:=hG.nk;have hna:=hG.na;have hlen:=hG.len;have hul:=AW n.I'.length n.L' k 0;have hbl:(qa n.L').length=n.L'.length:=by simp [qa]
 have hu:=hG.under;refine⟨?_,⟨by simp [rk],by simp [rk],by simp [rk,kh];omega,by simp [rk,hbl];omega,by simp [rk],by simp [rk],fun g H=>?_,fun e he=>(by simp [rk]at he)⟩,fun A B l I hl=>?_,hkl,.inl rfl⟩
 ·rw [Rj (.inr rfl)];rfl
 ·have:g∈qa n.L':=H;obtain⟨x,_,rfl⟩:=Bo.1 this;show([]:List bw).length<=30000;simp
 ·obtain⟨e,he,he9⟩:=I rfl;obtain⟨m,hm⟩: ∃m,m=xL l (dh (rk n (qa n.L')) A B) (gk n.I'.length n.L' k 0) []:=⟨_,rfl⟩;have mk:m.n.I'=kG n.I'.length:=by rw [hm];rfl
  have mg:m.n.L'=qa n.L':=by rw [hm];rfl
  have ma:m.a_=gk n.I'.length n.L' k 0:=by rw [hm];rfl
  have mA:dm m.A' m.n.A=some e:=by rw [hm];exact he
  have mkl:m.n.I'.length=n.I'.length:=by rw [mk,kh]
  have mgl:m.n.L'.length=n.L'.length:=by rw [mg,hbl]
  show kV (xL l (dh (rk n (qa n.L')) A B) (gk n.I'.length n.L' k 0) [])=some (true,{xL l (dh (rk n (qa n.L')) A B) (gk n.I'.length n.L' k 0) []with B':=k});rw [<-hm];have Y:((((e.Op==(9:Int))&&(decide ((m.n.I'.length:Int)<=(3:Int))))&&(decide ((m.n.L'.length:Int)<=(12:Int))))&&((i64.wrap ((m.n.I'.length:Int)+(m.n.L'.length:Int)))==(m.a_.length:Int)))=true:=by
   rw [mkl,mgl,ma,hul,hlen,cJ (by omega) (by omega)];simp [he9];omega
  unfold kV;rw [mA,bh,Y,aZ (by simp),xB _ (by rw [ma,hul];omega),bh,JA (by rw [mkl,ma,hul];omega) m.a_ m.n.I' 0 true (by omega)];have hkey:PJ m.a_ m.n.I' 0=true:=by
   rw [mk,ma];unfold kG;rw [List.range_eq_range'];refine JB _ n.I'.length 0 fun j hj=>?_;have hj:j<n.I'.length:=by omega
   rw [hu,lT (by simpa using hj),D9,qV hj];refine⟨_,rfl,fun h4=>?_⟩;have:=ha _ (PM (hG.keys _ (zW hj)));have h4:Gv a n.I'[j]=4:=h4;omega
  rw [hkey];have hsplit:m.a_=n.I'.map (Gv a)++n.L'.map (Bx a):=by rw [ma,hu]
  have e2:({m with B':=m.a_}:ap)={m with B':=n.I'.map (Gv a)++n.L'.map (Bx a)}:=congrArg (fun r=>({m with B':=r}:ap)) hsplit;show dd m m.n.L' 0 true ({m with B':=m.a_}:ap)=_;rw [e2,NJ (l:=m) (by omega) m.n.L' 0 true (n.I'.map (Gv a)) (n.L'.map (Bx a)) (by rw [mkl];simp) (by rw [mgl];simp) (by rw [hsplit,mkl,wV];exact List.drop_left' (by simp)) (by simp;omega)];have hz: ∀gs:List fh,(∀g∈gs,(zx g a).2=true)->((qa gs).zip (gs.map (Bx a))).all (fun p=>(fk p.1 p.2).2)=true/\List.zipWith (fun g k=>(fk g k).1) (qa gs) (gs.map (Bx a))=gs.map fun g=>(zx g a).1:=by
   intro gs
   induction gs with
   |nil=>intro _;exact⟨rfl,rfl⟩
   |cons g gs ih=>
    intro H;obtain⟨i1,i2⟩:=ih fun x I=>H x (pA _ I);have:=aaU ha (H g (pz ..));constructor
    ·show((fk ⟨g.Tag,⟨[]⟩⟩ (Bx a g)).2&&((qa gs).zip (gs.map (Bx a))).all (fun p=>(fk p.1 p.2).2))=true;rw [this,i1];rfl
    ·show(fk ⟨g.Tag,⟨[]⟩⟩ (Bx a g)).1::List.zipWith (fun g k=>(fk g k).1) (qa gs) (gs.map (Bx a))=_;rw [this,i2];rfl
  obtain⟨z1,z2⟩:=hz n.L' hG.z_;rw [mg,z1,z2,<-hG.eq];rfl
end
end
section
def CK(g:Int->Int)(of:List Int):List Int:=if of.any (fun c=>decide (g c<0))then []else of.map g
def KR(g:Int->Int)(of:List Int):Tk g (vO of)=vO (CK g of):=by
 unfold Tk vO CK;by_cases h:of=[]
 ·subst h;rfl
 ·rw [aZ h,bq rfl];show(if of.any (fun c=>decide (g c<0))then(⟨1,[]⟩:bT)else⟨2,of.map g⟩)=_;split
  ·rw [bq rfl]
  ·rw [aZ (by simpa using h)]
def wD(ks:List Int)(c:Int):(0<=wa ks c↔c∈ks)/\(0<=wa ks c-> ∃k:Nat,wa ks c=(k:Int)/\k<ks.length/\ks[k]? =some c):=by
 obtain⟨j,D,V,Z,_⟩:=zA ks c;have:wa ks c=j:=by unfold wa;rw [D];rfl
 rw [this];exact⟨V,Z⟩
def Dd(of n_:List Int): ∀tl out:List Int,out.length+tl.length<=1000->pj of n_ tl out=some (if tl.any (fun c=>decide (wa n_ c<0))then([],false)else(out++tl.map (wa n_),decide ((0:Int)<(of.length:Int))))
 |[],out,_=>by unfold pj;simp
 |e::tl,out,h=>by
  rw [jr]at h;unfold pj;rw [Vr,bh,zD];by_cases hj:wa n_ e<0
  ·rw [bq (by simpa using hj),zM hj];rfl
  ·rw [aZ (by simpa using hj),cK (by simp;omega),bh,Dd of n_ tl _ (by simp;omega),zN hj,yG,vi,gJ];rfl
def A7(of n_:List Int)(h:of.length<=1000): ∃ok,qL of n_=some (CK (wa n_) of,ok)/\(ok=true->of≠[]/\ ∀c∈of,c∈n_):=by
 have:=Dd of n_ of [] (by simpa using h);refine⟨!(of.any (fun c=>decide (wa n_ c<0)))&&decide (0<of.length),?_,fun hok=>?_⟩
 ·unfold qL;rw [this];unfold CK;split
  ·rename_i hc;rw [hc];rfl
  ·rename_i hc;have hc:of.any (fun c=>decide (wa n_ c<0))=false:=by simpa using hc
   rw [hc];simp
 ·simp only [jJ,FS,IR,vk]at hok;refine⟨fun e=>by rw [e]at hok;simp at hok,fun c hc=>(wD n_ c).1.1 (by have:=hok.1 c hc;omega)⟩
def Ps{n_ of:List Int}{m:Nat}(h:n_.length<=m): ∀x∈CK (wa n_) of,∃j:Nat,x=(j:Int)/\j<m:=by
 intro x I;unfold CK at I;split at I
 ·cases I
 ·rename_i hn;obtain⟨c,hc,rfl⟩:=Bo.1 I;have h0: ¬wa n_ c<0:=fun h=>hn (zO.2 ⟨c,hc,by simpa using h⟩);obtain⟨k,D,V,_⟩:=(wD n_ c).2 (by omega);exact⟨k,D,by omega⟩
def Gp(g:Int->Int)(of:List Int):(CK g of).length<=of.length:=by unfold CK;split<;>simp
def KH{n_ of:List Int}(h: ∀c∈of,c∈n_):CK (wa n_) of=of.map (wa n_):=by
 unfold CK;rw [aZ];rw [zO];rintro⟨c,hc,V⟩;have:=(wD n_ c).1.2 (h c hc);simp at V;omega
def S9{g h:Int->Int}{of:List Int}(e: ∀c∈of,g c=h c):CK g of=CK h of:=by
 unfold CK;have e1:of.any (fun c=>decide (g c<0))=of.any (fun c=>decide (h c<0)):=by
  rw [uQ,zO,zO];exact⟨fun⟨c,D,V⟩=>⟨c,D,by rw [<-e c D];exact V⟩,fun⟨c,D,V⟩=>⟨c,D,by rw [e c D];exact V⟩⟩
 rw [e1,E3 e]
def zK(e:bD):Int:=match e.u' with
 |[x]=>if x.Tag=2 then x.y_ else -1
 |_=> -1
def XJ{c:Int}(hc:0<=c)(e:bD):di c e=some (c==zK e):=by
 obtain⟨ns⟩:=e;have e1: ∀a b:Int,(a==b)=(b==a):=fun a b=>by rw [uQ,vD,vD];exact eq_comm
 match ns with
 |[]=>rw [e1];show some false=some ((-1:Int)==c);congr 1;symm;rw [LR];omega
 |[x]=>
  show(if(x.Tag==(2:Int))then some (x.y_==c)else some false).bind some=some (c==(if x.Tag=2 then x.y_ else -1));by_cases h:x.Tag=2
  ·rw [bq (by simpa using h),bq h,bh,e1]
  ·rw [aZ (by simpa using h),aZ h,bh];congr 1;symm;rw [LR];omega
 |x::y::tl=>
  have D:(((x::y::tl).length:Int)==(1:Int))=false:=by simp;omega
  unfold di;show((if(((x::y::tl).length:Int)==(1:Int))then _ else some false).bind _)=some (c==(-1:Int));rw [D,aZ (by simp),bh,aZ (by simp),bh];congr 1;symm;rw [LR];omega
def Vy{c:Int}(hc:0<=c): ∀(es:List bD) (i:Nat),dn (di c) es i=gw c (es.map zK) i
 |[],i=>rfl
 |e::tl,i=>by
  rw [vi];unfold dn gw;rw [XJ hc,bh,Vy hc tl (i+1)]
def XH{c:Int}(hc:0<=c)(es:List bD):PO es c=wa (es.map zK) c:=by
 unfold PO wa;have:=Vy hc es 0;have:dD es (di c)=fN (es.map zK) c:=this;rw [this]
def Na{κ β:Type} [DecidableEq κ](m:List (κ×β))(k k' :κ)(v:β):jC (dC m k v) k' =if k=k' then some v else jC m k' :=by
 induction m with
 |nil=>simp only [dC,jC]
 |cons p m ih=>
  unfold dC;by_cases h:p.1=k
  ·rw [bq h];simp only [jC];by_cases V:k=k'
   ·simp [V]
   ·rw [aZ V,aZ V,aZ (by rw [h];exact V)]
  ·rw [aZ h];simp only [jC];rw [ih];by_cases V:k=k'
   ·subst V;simp [h]
   ·simp [V]
structure CT(m:Nat)(u:Tr):Prop where
 wf:u.wf
 size:u.size<=1000
 d_:BZ m u
def Ly{m:Nat}{t:Tr}(h:CT m t): ∀u∈ub t,CT m u:=by
 have key: ∀t:Tr,t.wf->BZ m t-> ∀u∈ub t,u.wf/\BZ m u/\u.size<=t.size:=by
  intro t
  induction t with
  |lf n=>intro h hc u hu;rw [np.1 hu];exact⟨h,hc,eX _⟩
  |un n a _=>intro h hc u hu;rw [np.1 hu];exact⟨h,hc,eX _⟩
  |bi n a b iha ihb=>
   intro h hc u hu;rw [DN]at hu;split at hu
   ·have e:(Tr.bi n a b).size=a.size+b.size+1:=rfl;rcases oO.1 hu with hu|hu
    ·have:=iha h.2.1 hc.1 u hu;exact⟨this.1,this.2.1,by omega⟩
    ·have:=ihb h.2.2 hc.2 u hu;exact⟨this.1,this.2.1,by omega⟩
   ·rw [np.1 hu];exact⟨h,hc,eX _⟩
 intro u hu;obtain⟨D,V,Z⟩:=key t h.wf h.d_ u hu;exact⟨D,by have:=h.size;omega,V⟩
def Ex{m left:Nat}{u:Tr}(h:CT m u)(hm:m<=1000)(hl:left<=1000): ∃x y ok,wc (Ls u) (left:Int)=some (x,y,ok)/\(ok=true->OC u=false/\(∃i:Nat,x=(i:Int)/\i<left)/\ ∃j:Nat,y=(j:Int)/\j+left<m):=by
 have hr:kC (u.flat 0)=true:=Ai h.wf h.size;have hlen:=Cl hr;have hcol: ∀n∈u.flat 0,n.Tag=2->0<=n.y_/\n.y_<(m:Int):=fun n hn V=>⟨(UE h.wf 0 hn V).1,SE h.d_ h.wf 0 hn V⟩;have hany:=ND u 0;unfold wc Ls;rw [uP _ (by show(u.flat 0).length<=_;omega)];show∃x y ok,(some (if kC (u.flat 0)=true then(0:Int)else 200)).bind _=_/\_;rw [hr,bq rfl,bh];obtain⟨ns,hns⟩: ∃ns,ns=u.flat 0:=⟨_,rfl⟩;rw [<-hns]at hcol hany ⊢;dsimp only;by_cases Z:ns.length=3
 ·match ns,Z,hcol,hany with
  |[p,q,r],_,hcol,hany=>
   have t1:(!(((0:Int) !=(0:Int))||((([p,q,r]:List bw).length:Int) !=(3:Int))))=true:=rfl;rw [t1,bq rfl];show∃x y ok,(if(r.Tag !=(16:Int))=true then some ((0:Int),(0:Int),false)else(if((p.Tag !=(2:Int))||(q.Tag !=(2:Int)))=true then some ((0:Int),(0:Int),false)else _))=_/\_;by_cases hr16:r.Tag=16
   ·rw [aZ (by simp [hr16])];by_cases hpq:p.Tag=2/\q.Tag=2
    ·rw [aZ (by simp [hpq.1,hpq.2])];have hp:=hcol p (by simp) hpq.1;have hq:=hcol q (by simp) hpq.2;by_cases hlm:(left:Int)<=min p.y_ q.y_\/max p.y_ q.y_<(left:Int)
     ·rw [bq (by simpa using hlm)];exact⟨_,_,_,rfl,fun h=>by cases h⟩
     ·rw [aZ (by simpa using hlm)];refine⟨_,_,_,rfl,fun _=>⟨?_,⟨(min p.y_ q.y_).toNat,by omega,by omega⟩,(max p.y_ q.y_-(left:Int)).toNat,by rw [cJ (by omega) (by omega)];omega,by omega⟩⟩;rw [<-hany];simp [Ut,hr16,hpq.1,hpq.2]
    ·rw [bq (by simp;omega)];exact⟨_,_,_,rfl,fun h=>by cases h⟩
   ·rw [bq (by simpa using hr16)];exact⟨_,_,_,rfl,fun h=>by cases h⟩
 ·have t1:(!(((0:Int) !=(0:Int))||((ns.length:Int) !=(3:Int))))=false:=by simp;omega
  rw [t1,aZ (by simp),bh,bq rfl];exact⟨_,_,_,rfl,fun h=>by cases h⟩
def Ui(es:List bD)(left:Int)(x y:Int):Prop:= ∃e∈es,wc e left=some (x,y,true)
def xm{m left:Nat}(hm:m<=1000)(hl:left<=1000): ∀(us:List Tr) (a b:List Int),(∀u∈us,CT m u)->a.length=b.length->a.length<=16-> ∃a' b',m5 (left:Int) (us.map Ls) a b=some (a',b')/\a'.length=b'.length/\a'.length<=16/\(a' ≠[]->(∀u∈us,OC u=false)/\ ∀(i:Nat) (x y:Int),a'[i]? =some x->b'[i]? =some y->(a[i]? =some x/\b[i]? =some y)\/Ui (us.map Ls) (left:Int) x y)
 |[],a,b,_,D,V=>⟨a,b,rfl,D,V,fun _=>⟨fun u hu=>(by cases hu),fun i x y I hy=> .inl ⟨I,hy⟩⟩⟩
 |u::us,a,b,hu,D,V=>by
  have hut:=fun x I=>hu x (pA _ I);have hcu:=hu u (pz ..);obtain⟨x,y,ok,hp,hok⟩:=Ex hcu hm hl;have up: ∀{x y:Int},Ui (us.map Ls) (left:Int) x y->Ui ((u::us).map Ls) (left:Int) x y:=fun⟨e,he,h⟩=>⟨e,pA _ he,h⟩;rw [vi];unfold m5;rw [hp,bh]
  cases ok with
  |false=>
   rw [bq (by rfl),Rc hcu.wf hcu.size,bh]
   cases har:OC u with
   |true=>exact⟨[],[],rfl,rfl,kY _,fun h=>absurd rfl h⟩
   |false=>
    obtain⟨a',b',g1,g2,g3,g4⟩:=xm hm hl us a b hut D V;refine⟨a',b',g1,g2,g3,fun Q_=>?_⟩;obtain⟨k1,k2⟩:=g4 Q_;refine⟨fun w hw=>?_,fun i x y I hy=>(k2 i x y I hy).imp id up⟩;rcases iI.1 hw with rfl|hw
    ·exact har
    ·exact k1 w hw
  |true=>
   have har:=(hok rfl).1;rw [aZ (by simp)];have K_: ∀{P:Prop},((∀w∈us,OC w=false)/\P)->((∀w∈u::us,OC w=false)/\P):=fun⟨k1,k2⟩=>⟨fun w hw=>by
    rcases iI.1 hw with rfl|hw
    ·exact har
    ·exact k1 w hw,k2⟩
   by_cases o_:a.length<16
   ·rw [bq (by simp;omega),cK (by simp;omega),bh,cK (by simp;omega),bh];obtain⟨a',b',g1,g2,g3,g4⟩:=xm hm hl us (a++[x]) (b++[y]) hut (by simp;omega) (by simp;omega);refine⟨a',b',g1,g2,g3,fun Q_=>?_⟩;obtain⟨k1,k2⟩:=g4 Q_;refine K_ ⟨k1,fun i x' y' I hy=>?_⟩;rcases k2 i x' y' I hy with⟨q1,q2⟩|q
    ·rcases mN i a.length with hi|hi
     ·rw [lT hi]at q1;rw [lT (by omega)]at q2;exact .inl ⟨q1,q2⟩
     ·rw [sE hi]at q1;rw [sE (by omega)]at q2;have hi0:=(oC.1 q1).1;simp only [Eb]at hi0;rw [show i-a.length=0 by omega]at q1;rw [show i-b.length=0 by omega]at q2;have q1:some x=some x' :=q1;have q2:some y=some y' :=q2;cases q1;cases q2;exact .inr ⟨Ls u,pz ..,hp⟩
    ·exact .inr (up q)
   ·rw [aZ (by simp;omega)];obtain⟨a',b',g1,g2,g3,g4⟩:=xm hm hl us a b hut D V;refine⟨a',b',g1,g2,g3,fun Q_=>?_⟩;obtain⟨k1,k2⟩:=g4 Q_;exact K_ ⟨k1,fun i x y I hy=>(k2 i x y I hy).imp id up⟩
structure Prs(n:ac)(left w:Nat)(L R:List Int):Prop where
 code:yZ n.f_ (left:Int)=some (L,R)
 len:L.length=R.length
 le:L.length<=16
 inL: ∀x∈L,∃i:Nat,x=(i:Int)/\i<left
 inR: ∀y∈R,∃j:Nat,y=(j:Int)/\j+left<w
 jn: ∀p r:bT,L≠[]->p.Kind=2->r.Kind=2->p.l_.length=r.l_.length->(∀(i:Nat) (x y:Int),p.l_[i]? =some x->r.l_[i]? =some y-> ∃j:Nat,L[j]? =some x/\R[j]? =some y)->qJ n p r (left:Int)=some true
def JC(b:bT)(held:List ((Int×Int)×Bool)): ∀(l:List Int) (i:Nat),(∀(j:Nat) (x:Int),l[j]? =some x-> ∃y,b.l_[i+j]? =some y/\jC held (k2 [x,y])=some true)->qI b held l i=some true
 |[],i,_=>rfl
 |x::tl,i,h=>by
  obtain⟨y,D,V⟩:=h 0 x rfl;unfold qI;rw [bR,show b.l_[i]? =some y from D,bh,V,aZ (by simp)];exact JC b held tl (i+1) fun j x' I=>by
   obtain⟨y',g1,g2⟩:=h (j+1) x' (by simpa using I);exact⟨y',by rw [show i+1+j=i+(j+1) by omega];exact g1,g2⟩
def ED{m left:Nat}(hm:m<=1000)(hl:left<=1000)(a b:bT): ∀(us:List Tr) (held:List ((Int×Int)×Bool)),(∀u∈us,CT m u)->(∀(j:Nat) (x:Int),a.l_[j]? =some x-> ∃y,b.l_[j]? =some y/\(jC held (k2 [x,y])=some true\/Ui (us.map Ls) (left:Int) x y))->ph a b (left:Int) (us.map Ls) held=some true
 |[],held,_,h=>JC b held a.l_ 0 fun j x I=>by
   obtain⟨y,D,V⟩:=h j x I;refine⟨y,by rw [oZ];exact D,?_⟩;rcases V with V|⟨e,he,_⟩
   ·exact V
   ·cases he
 |u::us,held,hu,h=>by
  have hut:=fun x I=>hu x (pA _ I);obtain⟨x,y,ok,hp,_⟩:=Ex (hu u (pz ..)) hm hl;rw [vi];unfold ph;rw [hp,bh]
  cases ok with
  |true=>
   rw [bq rfl];refine ED hm hl a b us _ hut fun j x' I=>?_;obtain⟨y',g1,g2⟩:=h j x' I;refine⟨y',g1,?_⟩;rw [Na];show(if(x,y)=(x',y')then some true else _)=some true\/_;by_cases he:(x,y)=(x',y')
   ·rw [bq he];exact .inl rfl
   ·rw [aZ he];rcases g2 with g2|⟨e,hem,g3⟩
    ·exact .inl g2
    ·rcases iI.1 hem with rfl|hem
     ·rw [hp]at g3;injection g3 with g3;injection g3 with q1 q2;injection q2 with q2 _;exact absurd (by rw [q1,q2]) he
     ·exact .inr ⟨e,hem,g3⟩
  |false=>
   rw [aZ (by simp)];refine ED hm hl a b us _ hut fun j x' I=>?_;obtain⟨y',g1,g2⟩:=h j x' I;refine⟨y',g1,?_⟩;rcases g2 with g2|⟨e,hem,g3⟩
   ·exact .inl g2
   ·rcases iI.1 hem with rfl|hem
    ·rw [hp]at g3;cases g3
    ·exact .inr ⟨e,hem,g3⟩
def aaB{n:ac}{a b:List Int}(h:Ef n.f_ (a++b)=true)(ha:a.length<=16)(K:b.length<=16): ∃L R,Prs n a.length (a.length+b.length) L R:=by
 unfold Ef at h;rw [jJ]at h;obtain⟨t,Y,_,hc,_⟩:=Vu (by simpa using h.1);obtain⟨hw,hN,hs⟩:=qE Y;have hct:CT (a++b).length t:=⟨hw,hs,AO _ t hw 0 (by rw [<-hN];exact hc)⟩;have hlen:(a++b).length=a.length+b.length:=by simp
 rw [hlen]at hct;have I:n.f_=Ls t:=by
  unfold Ls;rw [<-hN]
 have hflat:(t.flat 0).length<=80000:=by
  have:=(Cl (Ai hw hs)).2;omega
 have hA:wd n.f_=some ((ub t).map Ls):=by
  rw [Lr _ (by rw [I];exact hflat)];rw [Y]
 obtain⟨L,R,g1,g2,g3,g4⟩:=xm (m:=a.length+b.length) (left:=a.length) (by omega) (by omega) (ub t) [] [] (Ly hct) rfl (kY _);have heldR: ∀x y,Ui ((ub t).map Ls) (a.length:Int) x y->(∃i:Nat,x=(i:Int)/\i<a.length)/\ ∃j:Nat,y=(j:Int)/\j+a.length<a.length+b.length:=fun x y ⟨e,he,hp⟩=>by
  obtain⟨u,hu,rfl⟩:=Bo.1 he;obtain⟨x',y',ok,hp',hok⟩:=Ex (left:=a.length) (Ly hct u hu) (by omega) (by omega);rw [hp']at hp;cases hp;exact(hok rfl).2
 have h_: ∀(i:Nat) (x y:Int),L[i]? =some x->R[i]? =some y->Ui ((ub t).map Ls) (a.length:Int) x y:=fun i x y I hy=>by
  have Q_:L≠[]:=fun e=>by rw [e]at I;simp at I
  rcases(g4 Q_).2 i x y I hy with⟨q,_⟩|q
  ·simp at q
  ·exact q
 refine⟨L,R,?_,g2,g3,fun x I=>?_,fun y hy=>?_,fun p r Q_ hp hr hpl hin=>?_⟩
 ·unfold yZ;rw [hA,bh];exact g1
 ·obtain⟨i,hi,rfl⟩:=List.getElem_of_mem I;exact(heldR _ _ (h_ i _ (R[i]'(by omega)) (qV hi) (qV (by omega)))).1
 ·obtain⟨i,hi,rfl⟩:=List.getElem_of_mem hy;exact(heldR _ _ (h_ i (L[i]'(by omega)) _ (qV (by omega)) (qV hi))).2
 ·unfold qJ;rw [aZ (by simp [hr])];have hsafe:uw n.f_=some true:=by
   rw [I,Rc hw hs];have:=T6 t;rw [o0.2 fun u hu=>by rw [(g4 Q_).1 u hu];rfl]at this;rw [<-this]
  have t1:(!(((p.Kind !=(2:Int))||(r.Kind !=(2:Int)))||((p.l_.length:Int) !=(r.l_.length:Int))))=true:=by simp [hp,hr,hpl]
  rw [t1,bq rfl,hsafe,bh,bh,aZ (by simp),hA,bh];refine ED (m:=a.length+b.length) (by omega) (by omega) p r (ub t) [] (Ly hct) fun j x I=>?_;have hj:=(oC.1 I).1;obtain⟨k,k1,k2⟩:=hin j x (r.l_[j]'(by omega)) I (qV (by omega));exact⟨_,qV (by omega),.inr (h_ k _ _ k1 k2)⟩
end
section
def Wn(op k d:Int): ∀l:List ac,cn op k (l.map (xf d))=cn op k l
 |[]=>rfl
 |n::l=>by
  show(if(xf d n).Op=op/\(xf d n).M'=k then 1 else 0)+cn op k (l.map (xf d))=_;rw [Wn op k d l];rfl
def RZ{op k:Int}{n:ac}(h:n.Op≠op)(a b:Int):cn op k [dh n a b]=0:=DG fun m hm=>by
 rw [np.1 hm];exact .inl h
def rM{op k:Int}{n:ac}(hn:n.Op≠op)(j' h:List Int)(s:be):cn op k (iO (q_ n j' s) h).A'=cn op k s.A':=by
 show cn op k (s.A'++[dh n _ _])=_;rw [ux,RZ hn];rfl
def DH{op k:Int}{n:ac}(hn:n.Op≠op)(j' h:List Int)(a b:be):cn op k (iO (V_ n j' a b) h).A'=cn op k a.A'+cn op k b.A':=by
 show cn op k ((a.A'++b.A'.map (xf _))++[dh n _ _])=_;rw [ux,ux,Wn,RZ hn];rfl
def Ez(n:ac)(j' h:List Int)(s:be):(iO (q_ n j' s) h).A'.length=s.A'.length+1:=by simp [iO,q_]
def Jn(n:ac)(j' h:List Int)(a b:be):(iO (V_ n j' a b) h).A'.length=a.A'.length+b.A'.length+1:=by simp [iO,V_];omega
def Fm{h:List Int}(hn:h≠[]):vO h=⟨2,h⟩:=by unfold vO;rw [aZ hn]
def d9.a{n:ac}(h:d9 n):SmA n:=⟨h.z_,h.order⟩
def K3.le4{k:List Int}(h:K3 k): ∀x∈k,0<=x/\x<=4:=fun x I=>by have:=h x I;omega
structure Oh(n:ac)(a b k:List Int):Prop where
 sm:d9 n
 op:F7 n.Op=true
 own:ye n=true
 ka:K3 a
 kb:K3 b
 la:a.length<=16
 lb:b.length<=16
 kk:ba n a b=some (k,true)
 k1:1<=k.length
 lk:k.length<=16
 k3:K3 k
section
variable{c:bo}{p:aK}{n:ac}{j' ka:List Int}{f0 f1 f2 fx:List bt}{hf:Int->Nat}{a s:be}{m:Nat}{P:FT->Prop}{fs:List bt}{ts:List FT}{t:FT}
def Oh.nw{a b:List Int}(h:Oh n a b j'):NW n a b j':=aaH h.sm h.op h.own h.ka h.kb h.la h.lb h.kk h.lk
def rO.sz(h:rO c fs ts s t):t.size=s.A'.length:=by rw [h.A',t.X']
def BB(n:ac)(t:FT):Prop:=(n.Op≠8->t.op≠8)/\t.op≠10
def Zb(c:bo)(f0 f2:List bt)(s:be)(P:FT->Prop):Prop:= ∀ts,Lay c f0 ts->f2.length<=29-> ∃l t,Lay c f2 (ts++l)/\rO c f2 (ts++l) s t/\P t
structure lu(c:bo)(f0 fx f2:List bt)(s:be)(j':List Int)(hf:Int->Nat)(m:Nat)(P:FT->Prop):Prop where
 ok:JY s
 j':s.j'=j'
 hl:s.V'.length<=16
 once:vx f0 f2 (fun k=>cn 9 k s.A')
 scans:sU f0 f2 (fun k=>cn 1 k s.A') hf
 len:s.A'.length<=m+1
 le:fx.length<=f2.length/\f2.length<=fx.length+2
 made:Zb c f0 f2 s P
def Zb.then(h:Zb c f0 f1 a P){P' :FT->Prop}(hl:f1.length<=f2.length)(g: ∀ts t,Lay c f1 ts->rO c f1 ts a t->P t->f2.length<=29-> ∃l t',Lay c f2 (ts++l)/\rO c f2 (ts++l) s t' /\P' t'):Zb c f0 f2 s P' :=fun ts hL h29=>by
 obtain⟨l,t,D,V,Z⟩:=h ts hL (by omega);obtain⟨l2,t',g1,g2,g3⟩:=g _ t D V Z h29;exact⟨l++l2,t',by rw [<-gJ];exact g1,by rw [<-gJ];exact g2,g3⟩
def Ht(h:lu c f0 fx f1 a ka hf m FT.nr)(hl:a.A'.length<=300)(C:Oh n ka [] j')(hp:sZ n.Op=1){hd:List Int}(hh:hd.length<=16)
  (hs: ∀ts t,rO c f1 ts a t->(∀x∈hd,∃j:Nat,x=(j:Int)/\j<j'.length)/\(a.h_=1->(∀q:dp,wX q c n (vO a.V') D7=vO hd)/\YY n (vO a.V'))){fy:List bt}{m' :Nat}(hm:a.A'.length<=m')(hy:fy.length<=f1.length/\f1.length<=fy.length+2):
  lu c f0 fy f1 (iO (q_ n j' a) hd) j' hf m' (BB n):=by
 have h9:n.Op≠9:=by have:=lE C.op;omega
 have D:n.Op≠1:=fun h=>by rw [h]at hp;exact absurd hp (by decide)
 have h10:n.Op≠10:=by have:=lE C.op;omega
 have h11:n.Op≠11:=by have:=lE C.op;omega
 have hlk:=C.lk;refine⟨h.ok.q_ (by omega) (by omega) (by omega) C.sm.a,rfl,hh,h.once.congr fun k=>rM h9 ..,h.scans.congr (fun k=>rM D ..) fun _=>rfl,by rw [Ez];omega,hy,h.made.then (eX _) fun ts t hL hS hn _=>?_⟩;obtain⟨g1,g3⟩:=hs ts t hS;have k_:=hS.sz;refine⟨[],.un n j' t,by rw [yH];exact hL,by rw [yH];exact hS.q_ hn hp (by rw [h.j'];exact C.nw) h11 C.k3.four ⟨C.k1,C.lk⟩ g1 hh (by omega) g3,⟨fun h8=>h8,h10⟩⟩
def lu.send(h:lu c f0 fx f1 a ka hf m FT.nr)(Z:K3 ka)(hl:ka.length<=16){way:Int}(hw:way=1\/way=3){d_:List Int}(hc:way=1↔0<d_.length)(hin: ∀x∈d_,∃j:Nat,x=(j:Int)/\j<ka.length)(hcl:d_.length<=16)(m' :Nat):
  lu c f0 f1 (nR a way d_ f1) (lg a way d_ f1) ka hf m' FT.nr:=by
 have hlen:=qe a way d_ f1;refine⟨h.ok.send (by omega),h.j',hcl,?_,?_,by simp [lg],by omega,h.made.then (by omega) fun ts t hL hS hn h29=>?_⟩
 ·have:vx f0 f1 (fun k=>cn 9 k a.A'+(fun _=>0) k):=h.once;exact this.send way d_
 ·have:sU f0 f1 (fun k=>cn 1 k a.A'+(fun _=>0) k) hf:=h.scans;exact this.send way d_
 ·obtain⟨g1,g2⟩:=hS.send hL hn (by omega) (by rw [h.j'];exact Z.le4) hw hc (by rw [h.j'];exact hin) hcl;exact⟨[t],_,g1,g2,⟨by show(9:Int)≠8;decide,by show(9:Int)≠10;decide⟩⟩
def rO.laid2(h:rO c fs ts s t){way:Int}(hn:t.op=8->s.h_=1->way=3)(hw:1<=way/\way<=3){d_:List Int}(hc:way=1↔0<d_.length)(hin: ∀x∈d_,∃k:Nat,x=(k:Int)/\k<s.j'.length)(hl:d_.length<=16):QH c fs ts ⟨s.A',s.h_,way,d_⟩ t where
 A':=h.A'
 W:=h.W
 h_:=h.h_
 way:=hw
 d_:=hc
 inr:=fun x I=>by
  obtain⟨k,D,V⟩:=hin x I;rw [<-h.ks]at V;exact⟨k,D,_,qV V,fun e=>h.four (by rw [<-h.ks,<-e];exact zW V)⟩
 clen:=hl
 leaf:=h.leaf
 up:=h.up
 ly:=fun D q hq=>by
  obtain⟨g1,g2⟩:=h.ly D q hq;exact⟨g2,by rw [g1];exact Fl _⟩
 srt:=hn
def Jm{f:bt}{ks k:List Int}(hL:Lay c fs ts)(Q:QH c fs ts f t)(hks:t.ks=ks)(hkr: ∀x∈ks,0<=x/\x<=4)(hkl:1<=ks.length/\ks.length<=16)(hfl:fs.length<30)(hw:f.Way=1\/f.Way=3)(hp:sZ n.Op=1)(hN:NW n ks [] k)(hnext:vy t.rt (some n))(h4:(4:Int)∉k)(hk:1<=k.length/\k.length<=16){hd:List Int}(hin: ∀x∈hd,∃j:Nat,x=(j:Int)/\j<k.length)(hl:hd.length<=16)
  (hly:f.Way=1->(∀q:dp,wX q c n (vO f.l_) D7=vO hd)/\YY n (vO f.l_)):
  Lay c (fs++[f]) (ts++[t])/\rO c (fs++[f]) (ts++[t]) (iO (q_ n k ⟨[kX fs.length ks],ks,if f.Way=3 then 2 else 1,f.l_⟩) hd) (.un n k (.lf (kX fs.length ks) ks)):=by
 have hlen:=hL.len;have hif:(fs++[f])[fs.length]? =some f:=by rw [sE (eX _),pX];rfl
 refine⟨hL.snoc Q,rfl,rfl,⟨hp,hN,VE (c:=c) hfl hkl.1 hkl.2 hkr,⟨by show(9:Int)≠8;decide,by show(9:Int)≠10;decide⟩,fun _=>⟨_,_,rfl,rfl⟩⟩,?_,h4,hk,hin,hl,fun m hm D=>?_,?_,fun D q ⟨l,hq⟩=>?_,by simp [FT.size]⟩
 ·show(if f.Way=3 then(2:Int)else 1)=1\/(if f.Way=3 then(2:Int)else 1)=2;by_cases hw3:f.Way=3<;>simp [hw3]
 ·have hm:m=kX fs.length ks\/m=n:=by simpa [FT.ns] using hm
  rcases hm with rfl|rfl
  ·exact absurd D (by show(9:Int)≠1;decide)
  ·rw [D]at hp;exact absurd hp (by decide)
 ·intro _;refine⟨fs.length,f,t,rfl,hif,?_,hks.symm,?_,hnext⟩
  ·rw [<-hlen,sE (eX _),pX];rfl
  ·show f.Way=3↔(if f.Way=3 then(2:Int)else 1)=2;by_cases hw3:f.Way=3<;>simp [hw3]
 ·have hw1:f.Way=1:=by
   rcases hw with h|h
   ·exact h
   ·have D:(if f.Way=3 then(2:Int)else 1)=1:=D;rw [bq h]at D;cases D
  obtain⟨g1,g2⟩:=hly hw1;have hq' :dm q.J' ((fs.length:Nat):Int)=some f:=by
   rw [hq,bR,gJ,sE (eX _),pX];rfl
  have hpr:FT.pr q c (.lf (kX fs.length ks) ks)=vO f.l_:=by
   show wX q c (kX fs.length ks) D7 D7=vO f.l_;unfold wX inP;rw [aZ (by show¬((9:Int)=1);decide),bq (by rfl)];show(match dm q.J' ((fs.length:Nat):Int)with|some f=>if f.Way=1 then(⟨2,f.l_⟩:bT)else⟨3,[]⟩|none=>⟨3,[]⟩)=_;rw [hq'];show(if f.Way=1 then(⟨2,f.l_⟩:bT)else⟨3,[]⟩)=_;rw [bq hw1,Fm];intro e;have:=Q.d_.1 hw1;rw [e]at this;simp at this
  refine⟨?_,?_,trivial⟩
  ·show wX q c n (FT.pr q c (.lf (kX fs.length ks) ks)) D7=_;rw [hpr];exact g1 q
  ·show YY n (FT.pr q c (.lf (kX fs.length ks) ks));rw [hpr];exact g2
def YY.no{p:bT}(h:n.Op=3\/n.Op=5):YY n p:=⟨fun D=>by omega,fun D=>by omega,fun D=>by omega⟩
def NL(h:lu c f0 fx f1 a ka hf m FT.nr)(hl:a.A'.length<=300)(C:Oh n ka [] j')(hn:n.Op=3): ∃s f2,((kO (qW p f1) n j' [a]).map fun mr=>(mr,qW p f1))=some (s,qW p f2)/\lu c f0 f1 f2 s j' hf a.A'.length (BB n):=by
 have hk:j'=ka:=by have:=C.kk;rw [rk3 hn]at this;injection this with this;injection this with this _;exact this.symm
 refine⟨_,f1,?_,Ht h hl C (by rw [hn];rfl) (hd:=a.V') h.hl (fun ts t hS=>⟨by rw [hk,<-h.j'];exact hS.hin,fun _=>⟨fun q=>?_,.no (.inl hn)⟩⟩) (eX _) ⟨eX _,by omega⟩⟩
 ·unfold kO ig;show Option.map _ ((gh n j' [a]).bind _)=_;rw [oK n j' h.ok];rfl
 ·unfold wX;simp [hn]
def YW{α:Type}(e:bD)(k:Int->Option α):(((if((e.u'.length:Int)==(1:Int))then((dm e.u' (0:Int)).bind fun e3=>some (e3.Tag==(2:Int)))else some false).bind fun t=>if t then((dm e.u' (0:Int)).bind fun e4=>k e4.y_)else k (-1)))=k (zK e):=by
 obtain⟨ns⟩:=e
 match ns with
 |[]=>rfl
 |[x]=>
  show(if(x.Tag==(2:Int))then k x.y_ else k (-1))=k (if x.Tag=2 then x.y_ else -1);by_cases h:x.Tag=2
  ·rw [bq (by simpa using h),bq h]
  ·rw [aZ (by simpa using h),aZ h]
 |x::y::tl=>
  have:(((x::y::tl).length:Int)==(1:Int))=false:=by simp;omega
  show((if((((x::y::tl).length:Int))==(1:Int))then _ else some false).bind _)=k (-1);rw [this,aZ (by simp),bh,aZ (by simp)]
def Fk(l:List be): ∀(tl:List bD) (i:Nat) (done:List Int) (rest:List Int),done.length=i->rest.length=tl.length->dw n j' l tl i (done++rest)=dw n j' l [] (i+tl.length) (done++tl.map zK)
 |[],i,done,rest,_,V=>by
  have:rest=[]:=uS V;subst this;rfl
 |e::tl,i,done,r::rest,D,V=>by
  have hi:dm (done++r::rest) (i:Int)=some r:=by rw [bR,sE (by omega),D,pX];rfl
  have I_: ∀v:Int,(done++r::rest).set i v=(done++[v])++rest:=fun v=>by
   rw [IU _ _ (by omega),D,pX];simp
  have hset2: ∀v w:Int,((done++[w])++rest).set i v=(done++[v])++rest:=fun v w=>by
   rw [gJ,IU _ _ (by omega),D,pX];simp
  have hi2: ∀w:Int,dm ((done++[w])++rest) (i:Int)=some w:=fun w=>by
   rw [gJ,bR,sE (by omega),D,pX];rfl
  conv=>lhs;unfold dw
  rw [hi,bh,bh,yJ,I_];have key:=YW e (fun v=>dw n j' l tl (i+1) ((done++[v])++rest));have e0:(((if((e.u'.length:Int)==(1:Int))then((dm e.u' (0:Int)).bind fun e3=>some (e3.Tag==(2:Int)))else some false).bind fun t=>if t then((dm e.u' (0:Int)).bind fun e4=>(dm ((done++[(-1:Int)])++rest) (i:Int)).bind fun e5=>(some (((done++[(-1:Int)])++rest).set i e4.y_)).bind fun st1=>(dw n j' l tl) (i+1) st1)else((dw n j' l tl) (i+1) ((done++[(-1:Int)])++rest))))=dw n j' l tl (i+1) ((done++[zK e])++rest):=by
   rw [<-key];congr 1;funext t;congr 1;congr 1;funext e4;rw [hi2,bh,bh,hset2]
  refine Eq.trans e0 ?_;rw [Fk l tl (i+1) (done++[zK e]) rest (by simp [D]) (by simpa using V)];rw [show i+1+tl.length=i+(e::tl).length by simp;omega];simp
def KE(h:lu c f0 fx f1 a ka hf m FT.nr)(hl:a.A'.length<=300)(C:Oh n ka [] j')(hn:n.Op=5): ∃s f2,((kf (qW p f1) n j' [a]).map fun mr=>(mr,qW p f1))=some (s,qW p f2)/\lu c f0 f1 f2 s j' hf a.A'.length (BB n):=by
 have hk:j'.length=n.N'.length:=by have:=C.kk;rw [rk5 C.sm hn]at this;injection this with this;injection this with this _;rw [<-this];simp
 have hah:=h.hl;obtain⟨ok,D,_⟩:=A7 a.V' (n.N'.map zK) (by omega);have hpl:=Gp (wa (n.N'.map zK)) a.V';refine⟨_,f1,?_,Ht h hl C (by rw [hn];rfl) (hd:=CK (wa (n.N'.map zK)) a.V') (by omega) (fun ts t hS=>⟨Ps (by rw [hk];simp),fun _=>⟨fun q=>?_,.no (.inr hn)⟩⟩) (eX _) ⟨eX _,by omega⟩⟩
 ·unfold kf;have z:yN (n.N'.length:Int) (0:Int)=some (List.replicate n.N'.length 0):=by
   unfold yN;rw [bq (by have:=C.sm.items;omega),yJ]
  rw [z,bh];have:=Fk (n:=n) (j':=j') [a] n.N' 0 [] (List.replicate n.N'.length 0) rfl (by simp);rw [lz,lz]at this;rw [this];unfold dw;show Option.map _ ((qL a.V' (n.N'.map zK)).bind _)=_;rw [D,bh,oK n j' h.ok,bh];rfl
 ·have e:wX q c n (vO a.V') D7=Tk (PO n.N') (vO a.V'):=by unfold wX;simp [hn]
  rw [e,KR,S9 fun x I=>by obtain⟨k,rfl,_⟩:=hS.hin x I;exact XH (by omega) n.N']
def Pn{n:ac}(h:n.A= -1)(V:n.B= -1):dh n (-1) (-1)=n:=by
 obtain⟨op,A,B,tb,ks,lf,cd,ky,ag,it,od,lm⟩:=n;have h:A= -1:=h;have V:B= -1:=V;subst h V;rfl
def SX{tb:de}(Y:dm c.i_ n.M'=some tb)(hp:p.catalog=c)(hn:n.Op=1)(hA:n.A= -1/\n.B= -1)(C:Oh n [] [] j')(h0:0<=n.M')(hks:n.U'=tb.b_.map (fun x=>x.Kind))(hkl:tb.I'.length<=10)(hky: ∀x∈tb.I',∃k:Nat,x=(k:Int)/\k<tb.b_.length):
  ∃s f2,((mu (qW p f1) n j' []).map fun mr=>(mr,qW p f1))=some (s,qW p f2)/\lu c f1 f1 f2 s j' (fun k=>cn 1 k [n]) 0 FT.nr:=by
 have hk:j'=n.U':=by have:=C.kk;rw [rk1 C.sm hn]at this;injection this with this;injection this with this _;exact this.symm
 have e:dh n (-1) (-1)=n:=Pn hA.1 hA.2;have h16:=C.lk;refine⟨⟨[n],j',1,tb.I'⟩,f1,?_,⟨.inl rfl,eX _,by show 1<=1000;omega,by show j'.length<=100;omega,by show tb.I'.length<=100;omega,fun m hm=>?_,fun m hm=>by rw [np.1 hm];exact C.sm.a⟩,rfl,by show tb.I'.length<=16;omega,(vx.nil f1).congr fun k=>?_,.nil f1 _,eX _,⟨eX _,by omega⟩,fun ts hL _=>⟨[],.lf n j',by rw [yH];exact hL,?_,⟨by show n.Op≠8;omega,by show n.Op≠10;omega⟩⟩⟩
 ·unfold mu;show Option.map _ ((dm p.catalog.i_ n.M').bind _)=_;rw [hp,Y];rfl
 ·rw [np.1 hm];show n.A<(1:Int)/\n.B<(1:Int);omega
 ·exact DG fun m hm=>by rw [np.1 hm];exact .inl (by omega)
 ·refine⟨by show [n]=[dh n (-1) (-1)];rw [e],rfl,⟨by rw [hn];rfl,C.nw⟩,.inl rfl,C.k3.four,⟨C.k1,C.lk⟩,fun x I=>?_,by show tb.I'.length<=16;omega,fun m hm D=>?_,fun h9=>absurd h9 (by omega),fun _ q _=>⟨?_,trivial⟩,by simp [FT.size]⟩
  ·obtain⟨k,D,V⟩:=hky x I;exact⟨k,D,by show k<j'.length;rw [hk,hks,BG];exact V⟩
  ·have:m=n:=by simpa [FT.ns] using hm
   subst this;exact⟨rfl,tb,h0,Y,hks,hkl⟩
  ·show wX q c n D7 D7=vO tb.I';unfold wX Rb;rw [bq hn,Y];show(if 0<tb.I'.length then(⟨2,tb.I'⟩:bT)else⟨1,[]⟩)=_;unfold vO;by_cases hz:tb.I'=[]
   ·rw [bq hz,hz];rfl
   ·rw [aZ hz,bq (List.length_pos_iff.2 hz)]
def Gw{k w:Nat}(h:k<=w): ∀x∈kG k,∃j:Nat,x=(j:Int)/\j<w:=fun x I=>by
 have:=Vl.1 I;exact⟨x.toNat,by omega,by omega⟩
def IH(h:lu c f0 fx f1 a ka hf m FT.nr)(hl:a.A'.length<=300)(Q:f1.length<=500)(C:Oh n ka [] j')(hn:n.Op=6): ∃s f2,jG (qW p f1) n j' [a]=some (s,qW p f2)/\lu c f0 f1 f2 s j' hf a.A'.length (BB n):=by
 have hk:j'=ka:=by have:=C.kk;rw [rk6 hn]at this;injection this with this;injection this with this _;exact this.symm
 have ec:jG (qW p f1) n j' [a]=(if((a.h_==(2:Int))||(decide ((0:Int)<(a.V'.length:Int))))then((gh n j' ([a])).bind fun r=>(ig r a.V').bind fun r1=>some (r1,qW p f1))else((vZ (j'.length:Int)).bind fun r2=>(ez (qW p f1) a (1:Int) r2).bind fun r3=>(gh n j' ([r3.1])).bind fun r4=>(ig r4 r2).bind fun r5=>some (r5,r3.2))):=rfl;have htl: ∀(q:dp) (x:bT),wX q c n x D7=x:=fun q x=>by unfold wX;simp [hn]
 have hlk:=C.lk;have hk1:=C.k1;have hak:=h.ok.j';rw [ec];by_cases hc:a.h_=2\/0<a.V'.length
 ·rw [bq (by simpa using hc)];refine⟨_,f1,?_,Ht h hl C (by rw [hn];rfl) (hd:=a.V') h.hl (fun ts t hS=>⟨by rw [hk,<-h.j'];exact hS.hin,fun D=>⟨fun q=>htl q _,⟨fun h4=>by omega,fun _=>?_,fun h8=>by omega⟩⟩⟩) (eX _) ⟨eX _,by omega⟩⟩
  ·rw [oK n j' h.ok];rfl
  ·rw [Fm (List.length_pos_iff.1 (by omega))]
 ·rw [aZ (by simpa using hc),QZ _ (by omega),bh,sJ (by rw [kh];omega) (by omega) (by omega),bh];have Q_:kG j'.length≠[]:=fun e=>by
   have h0:(kG j'.length).length=0:=by rw [e];rfl
   rw [kh]at h0;omega
  have hS:=h.send C.ka C.la (way:=1) (d_:=kG j'.length) (.inl rfl) ⟨fun _=>by rw [kh];omega,fun _=>rfl⟩ (Gw (by rw [hk];exact eX _)) (by rw [kh];omega) 0;have hlen:=qe a 1 (kG j'.length) f1;refine⟨_,nR a 1 (kG j'.length) f1,?_,Ht hS (by simp [lg]) C (by rw [hn];rfl) (hd:=kG j'.length) (by rw [kh];omega) (fun ts t _=>⟨Gw (eX _),fun D=>⟨fun q=>htl q _,⟨fun h4=>by omega,fun _=>?_,fun h8=>by omega⟩⟩⟩) (by show 1<=a.A'.length;exact h.ok.pos) (by omega)⟩
  ·rw [oK n j' hS.ok];rfl
  ·show(vO (kG j'.length)).Kind=2;rw [Fm Q_]
end
end
section
section
variable{c:bo}{p:aK}{n:ac}{j' ka:List Int}{f0 f1 f2 fx:List bt}{hf:Int->Nat}{a s:be}{m:Nat}{P:FT->Prop}{fs:List bt}{ts:List FT}{t:FT}
def PC(h:lu c f0 fx f1 a ka hf m FT.nr)(hl:a.A'.length<=300)(Q:f1.length<=500)(C:Oh n ka [] j')(hn:n.Op=8): ∃s f2,lC (qW p f1) n j' [a]=some (s,qW p f2)/\lu c f0 f1 f2 s j' hf a.A'.length (BB n)/\s.h_=2:=by
 have hk:j'=ka:=by have:=C.kk;rw [rk8 C.sm hn]at this;injection this with this;injection this with this _;exact this.symm
 have ec:lC (qW p f1) n j' [a]=((gh n j' ([a])).bind fun r=>if(r.h_==(2:Int))then(some (r,qW p f1))else((eC (qW p f1) r).bind fun r1=>(gh n j' ([r1.1])).bind fun r2=>some (r2,r1.2))):=rfl;have htl: ∀(q:dp) (x:bT),wX q c n x D7=x:=fun q x=>by unfold wX;simp [hn]
 have hlk:=C.lk;have hk1:=C.k1;have hp:sZ n.Op=1:=by rw [hn];rfl
 have ho:JY (iO (q_ n j' a) []):=h.ok.q_ (by omega) (by simp) (by omega) C.sm.a;rw [ec,oK n j' h.ok,bh];by_cases V:a.h_=2
 ·rw [bq (by show(a.h_==(2:Int))=true;simpa using V)];exact⟨_,f1,rfl,Ht h hl C hp (hd:=[]) (by simp) (fun ts t hS=>⟨fun x I=>(by cases I),fun D=>by omega⟩) (eX _) ⟨eX _,by omega⟩,V⟩
 ·rw [aZ (by show¬(a.h_==(2:Int))=true;simpa using V)];show∃s f2,((eC (qW p f1) (iO (q_ n j' a) [])).bind _)=_/\_;rw [yf (by have:=ho.j';omega) (by omega),bh];have h2' : ¬(iO (q_ n j' a) []).h_=2:=V;have e1:BA (iO (q_ n j' a) []) f1=lg (iO (q_ n j' a) []) 3 [] f1:=aZ h2';have e2:yg (iO (q_ n j' a) []) f1=nR (iO (q_ n j' a) []) 3 [] f1:=aZ h2';rw [e1,e2];have hs:=ho.send (way:=3) (d_:=[]) (fs:=f1) (by simp);have hlen:=qe (iO (q_ n j' a) []) 3 [] f1;have h9:n.Op≠9:=by omega
  have D:n.Op≠1:=by omega
  refine⟨iO (q_ n j' (lg (iO (q_ n j' a) []) 3 [] f1)) [],nR (iO (q_ n j' a) []) 3 [] f1,?_,⟨hs.q_ (by omega) (by simp) (by simp [lg]) C.sm.a,rfl,by show 0<=16;omega,?_,?_,?_,by omega,h.made.then (by omega) fun ts t hL hS hn' h29=>?_⟩,rfl⟩
  ·rw [oK n j' hs];rfl
  ·have h0:vx f0 f1 (fun k=>cn 9 k (iO (q_ n j' a) []).A'+(fun _=>0) k):=h.once.congr fun k=>rM h9 ..;exact(h0.send 3 []).congr fun k=>rM h9 ..
  ·have h0:sU f0 f1 (fun k=>cn 1 k (iO (q_ n j' a) []).A'+(fun _=>0) k) hf:=h.scans.congr (fun k=>rM D ..) fun _=>rfl;exact(h0.send 3 []).congr (fun k=>rM D ..) fun _=>rfl
  ·rw [Ez];show 1+1<=_;have:=h.ok.pos;omega
  ·have k_:=hS.sz;have S1:=hS.q_ (n:=n) (k:=j') hn' hp (by rw [h.j'];exact C.nw) (by omega) C.k3.four ⟨C.k1,C.lk⟩ (hd:=a.V') (by rw [hk,<-h.j'];exact hS.hin) hS.hl (by omega) (fun _=>⟨fun q=>htl q _,⟨fun h4=>by omega,fun h6=>by omega,fun _=>Fl _⟩⟩);have hlaid:=S1.laid2 (way:=3) (d_:=[]) (fun _ _=>rfl) (by omega) (by simp) (fun x I=>by cases I) (by simp);have:=Jm (n:=n) (ks:=j') (k:=j') (hd:=[]) hL hlaid rfl C.k3.le4 ⟨C.k1,C.lk⟩ (by omega) (.inr rfl) hp (by have:=C.nw;rw [<-hk]at this;exact this) ⟨fun h10=>by have h10:n.Op=10:=h10;omega,fun _=>⟨n,rfl,hn,rfl,rfl⟩⟩ C.k3.four ⟨C.k1,C.lk⟩ (fun x I=>by cases I) (by simp) (fun D=>by have D:(3:Int)=1:=D;omega);exact⟨[_],_,this.1,this.2,⟨fun h8=>absurd hn h8,by show n.Op≠10;omega⟩⟩
def HH(r4:List Int)(r7:be×aK): ∀(tl:List fh) (done:List fh),done.length+tl.length<=1000->gr j' r4 r7 tl (rk n done)=gr j' r4 r7 [] (rk n (done++qa tl))
 |[],done,_=>by unfold qa;simp
 |g::tl,done,h=>by
  rw [jr]at h
  conv=>lhs;unfold gr
  show((nH done ([(⟨g.Tag,(⟨[]⟩:bD)⟩:fh)])).bind _)=_;rw [cK (by simp;omega),bh];show gr j' r4 r7 tl (rk n (done++[⟨g.Tag,⟨[]⟩⟩]))=_;rw [HH r4 r7 tl _ (by simp;omega),gJ];rfl
def XK{k j:Nat}(h:j<k):(kG k)[j]? =some (j:Int):=by
 unfold kG;rw [D9,List.getElem?_range h];rfl
def U4(k:Nat):CK (wa (kG k)) (kG k)=kG k:=by
 rw [KH fun c hc=>hc];have: ∀c∈kG k,wa (kG k) c=c:=fun c hc=>by
  obtain⟨j,D,V,Z⟩:=(wD (kG k) c).2 ((wD (kG k) c).1.2 hc);rw [kh]at V;rw [XK V]at Z;rw [D];exact qr Z
 exact(E3 this).trans (List.map_id _)
def PS(h:lu c f0 fx f1 a ka hf m FT.nr)(hl:a.A'.length<=300)(Q:f1.length<=500)(C:Oh n ka [] j')(hn:n.Op=4): ∃s f2,lD (qW p f1) n j' [a]=some (s,qW p f2)/\lu c f0 f1 f2 s j' hf a.A'.length (BB n):=by
 have G:=aaN C.sm hn C.kk;have hkl:=G.len;have hnk:=G.nk;have hlk:=C.lk;have hk1:=C.k1;have hhl:=h.hl;have hp:sZ n.Op=1:=by rw [hn];rfl
 unfold lD;rw [show dm [a] (0:Int)=some a from rfl,bh];by_cases V:a.h_=2
 ·rw [bq (by simpa using V)];exact⟨_,f1,by rw [oK n j' h.ok];rfl,Ht h hl C hp (hd:=[]) (by simp) (fun ts t hS=>⟨fun x I=>(by cases I),fun D=>by omega⟩) (eX _) ⟨eX _,by omega⟩⟩
 rw [aZ (by simpa using V)];obtain⟨ok,D,h1'⟩:=A7 a.V' n.I' (by omega);have hpl:=Gp (wa n.I') a.V';rw [D,bh]
 cases ok with
 |true=>
  rw [bq rfl];obtain⟨Q_,hin⟩:=h1' rfl;refine⟨_,f1,by rw [oK n j' h.ok];rfl,Ht h hl C hp (hd:=CK (wa n.I') a.V') (by omega) (fun ts t hS=>⟨Ps (by omega),fun _=>⟨fun q=>?_,⟨fun _=>?_,fun h6=>by omega,fun h8=>by omega⟩⟩⟩) (eX _) ⟨eX _,by omega⟩⟩
  ·have e:wX q c n (vO a.V') D7=Tk (wa n.I') (vO a.V'):=by unfold wX;simp [hn]
   rw [e,KR]
  ·rw [Fm Q_];exact⟨rfl,hin⟩
 |false=>
  rw [aZ (by simp),QZ _ (by omega),bh];have hul:=AW n.I'.length n.L' j' 0;have hNW10:=acO C.sm hn C.own C.ka C.la C.kk C.lk;have hNW11:=acN C.sm hn C.ka C.kk C.lk;have hund:=G.under;have uk: ∀x∈gk n.I'.length n.L' j' 0,0<=x/\x<=4:=fun x I=>by
   rcases IZ _ _ _ _ _ I with h|h
   ·exact C.k3.le4 x h
   ·omega
  have smA10:SmA (j6 n):=C.sm.a;have smA11:SmA (rk n (qa n.L')):=⟨by show(qa n.L').length<=5000;simp [qa];exact C.sm.z_,by show 0<=5000;omega⟩;have ho:JY (iO (q_ (j6 n) (gk n.I'.length n.L' j' 0) a) []):=h.ok.q_ (by omega) (by simp) (by omega) smA10;have key: ∀way:Int,(way=1\/way=3)->(way=1↔0<n.I'.length)-> ∃s f2,lq (qW p f1) n j' a (kG n.I'.length) way=some (s,qW p f2)/\lu c f0 f1 f2 s j' hf a.A'.length (BB n):=by
   intro way hw hwc;have hs:=ho.send (way:=way) (d_:=kG n.I'.length) (fs:=f1) (by rw [kh];omega);have hlen:=qe (iO (q_ (j6 n) (gk n.I'.length n.L' j' 0) a) []) way (kG n.I'.length) f1;have n9:(j6 n).Op≠9:=by show(10:Int)≠9;decide
   have n1:(j6 n).Op≠1:=by show(10:Int)≠1;decide
   have l9:(rk n (qa n.L')).Op≠9:=by show(11:Int)≠9;decide
   have l1:(rk n (qa n.L')).Op≠1:=by show(11:Int)≠1;decide
   refine⟨iO (q_ (rk n (qa n.L')) j' (lg (iO (q_ (j6 n) (gk n.I'.length n.L' j' 0) a) []) way (kG n.I'.length) f1)) (kG n.I'.length),nR (iO (q_ (j6 n) (gk n.I'.length n.L' j' 0) a) []) way (kG n.I'.length) f1,?_,hs.q_ (by omega) (by rw [kh];omega) (by simp [lg]) smA11,rfl,by show(kG n.I'.length).length<=16;rw [kh];omega,?_,?_,?_,by omega,h.made.then (by omega) fun ts t hL hS hnr h29=>?_⟩
   ·unfold lq;rw [Pv (n:=ac.mk (10:Int) n.A n.B n.M' n.U' n.Left n.f_ n.I' n.L' n.N' n.Y' n.Z') hkl (by omega),bh,oK _ _ h.ok,bh];have hc:=sJ (p:=p) (s:=q_ (j6 n) (gk n.I'.length n.L' j' 0) a) (way:=way) (d_:=kG n.I'.length) (fs:=f1) (by rw [kh];omega) (by have:=ho.j';exact pG this (by omega)) (by omega);show((ez (qW p f1) (q_ (j6 n) (gk n.I'.length n.L' j' 0) a) way (kG n.I'.length)).bind _)=_;rw [hc,bh];have:=HH (n:=n) (j':=j') (kG n.I'.length) (lg (iO (q_ (j6 n) (gk n.I'.length n.L' j' 0) a) []) way (kG n.I'.length) f1,qW p (nR (iO (q_ (j6 n) (gk n.I'.length n.L' j' 0) a) []) way (kG n.I'.length) f1)) n.L' [] (by have:=G.na;simp;omega);refine Eq.trans this ?_;rw [lz];unfold gr;rw [oK _ _ hs];rfl
   ·have h0:vx f0 f1 (fun k=>cn 9 k (iO (q_ (j6 n) (gk n.I'.length n.L' j' 0) a) []).A'+(fun _=>0) k):=h.once.congr fun k=>rM n9 ..;exact(h0.send way (kG n.I'.length)).congr fun k=>rM l9 ..
   ·have h0:sU f0 f1 (fun k=>cn 1 k (iO (q_ (j6 n) (gk n.I'.length n.L' j' 0) a) []).A'+(fun _=>0) k) hf:=h.scans.congr (fun k=>rM n1 ..) fun _=>rfl;exact(h0.send way (kG n.I'.length)).congr (fun k=>rM l1 ..) fun _=>rfl
   ·rw [Ez];show 1+1<=_;have:=h.ok.pos;omega
   ·have hlaid:QH c f1 ts ⟨(iO (q_ (j6 n) (gk n.I'.length n.L' j' 0) a) []).A',a.h_,way,kG n.I'.length⟩ (.un (j6 n) (gk n.I'.length n.L' j' 0) t):=by
     refine⟨?_,⟨rfl,by rw [hS.ks,h.j'];exact hNW10,hS.W,hnr,fun h11=>absurd h11 (by show¬(10:Int)=11;decide)⟩,hS.h_,by show 1<=way/\way<=3;omega,?_,fun x I=>?_,by show(kG n.I'.length).length<=16;rw [kh];omega,fun m hm D=>?_,hS.up.un fun m q e=>?_,fun D q hq=>?_,fun h8=>absurd h8 (by show¬(10:Int)=8;decide)⟩
     ·show a.A'++[dh (j6 n) ((a.A'.length:Int)-1) (-1)]=t.flat 0++[dh (j6 n) ((0+t.size:Nat)-1:Int) (-1)];rw [hS.A',t.X',oZ]
     ·show way=1↔0<(kG n.I'.length).length;rw [kh];exact hwc
     ·have I:x∈kG n.I'.length:=I;obtain⟨k,D,V⟩:=Gw (eX _) x I;refine⟨k,D,Gv ka n.I'[k],?_,?_⟩
      ·show(gk n.I'.length n.L' j' 0)[k]? =_;rw [hund,lT (by simpa using V),D9,qV V];rfl
      ·have:=C.ka _ (PM (G.keys _ (zW V)));omega
     ·rcases oO.1 hm with hm|hm
      ·exact hS.leaf m hm D
      ·have:m=j6 n:=by simpa using hm
       subst this;exact absurd D n1
     ·have:=hS.up;rw [e]at this;exact Uu.none this (some (j6 n))
     ·obtain⟨g1,g2⟩:=hS.ly D q hq;have e:FT.pr q c (.un (j6 n) (gk n.I'.length n.L' j' 0) t)=Tk (wa n.I') (t.pr q c):=by
       show wX q c (j6 n) (t.pr q c) D7=_;unfold wX;simp [j6]
      refine⟨⟨⟨fun h4=>?_,fun h6=>?_,fun _=>by rw [g1];exact Fl _⟩,g2⟩,by rw [e,g1,KR];exact Fl _⟩
      ·have h4:(10:Int)=4\/(10:Int)=11:=h4;omega
      ·have h6:(10:Int)=6:=h6;omega
    have:=Jm (n:=rk n (qa n.L')) (ks:=gk n.I'.length n.L' j' 0) (k:=j') (hd:=kG n.I'.length) hL hlaid rfl uk ⟨by omega,by omega⟩ (by omega) hw rfl hNW11 ⟨fun _=>⟨_,rfl,rfl,?_,?_⟩,fun h8=>absurd h8 (by show¬(10:Int)=8;decide)⟩ C.k3.four ⟨C.k1,C.lk⟩ (Gw (by omega)) (by rw [kh];omega) (fun D=>⟨fun q=>?_,⟨fun _=>?_,fun h6=>?_,fun h8=>?_⟩⟩)
    ·exact⟨[_],_,this.1,this.2,⟨fun _=>by show(11:Int)≠8;decide,by show(11:Int)≠10;decide⟩⟩
    ·show n.L'.map (fun g=>g.Tag)=(qa n.L').map fun g=>g.Tag;unfold qa;rw [List.map_map];rfl
    ·show n.I'.length=(kG n.I'.length).length;rw [kh]
    ·show wX q c (rk n (qa n.L')) (vO (kG n.I'.length)) D7=vO (kG n.I'.length);have e:wX q c (rk n (qa n.L')) (vO (kG n.I'.length)) D7=Tk (wa (kG n.I'.length)) (vO (kG n.I'.length)):=by unfold wX;simp [rk]
     rw [e,KR,U4]
    ·have hk0:0<n.I'.length:=hwc.1 D;show(vO (kG n.I'.length)).Kind=2/\ ∀x∈(vO (kG n.I'.length)).l_,x∈kG n.I'.length;rw [Fm (fun e=>by have h0:(kG n.I'.length).length=0:=by{rw [e];rfl};rw [kh]at h0;omega)];exact⟨rfl,fun x I=>I⟩
    ·have h6:(11:Int)=6:=h6;omega
    ·have h8:(11:Int)=8\/(11:Int)=10:=h8;omega
  by_cases h0:n.I'.length=0
  ·rw [bq (by rw [kh];simpa using h0)];exact key 3 (.inr rfl) ⟨fun h=>by omega,fun h=>by omega⟩
  ·rw [aZ (by rw [kh];simpa using h0)];exact key 1 (.inl rfl) ⟨fun h=>by omega,fun _=>rfl⟩
end
end
section
structure nJ(c:bo)(f0 f1:List bt)(a b:be)(ka kb:List Int)(hf:Int->Nat):Prop where
 oka:JY a
 okb:JY b
 kia:a.j'=ka
 kib:b.j'=kb
 hla:a.V'.length<=16
 hlb:b.V'.length<=16
 once:vx f0 f1 (fun k=>cn 9 k a.A'+cn 9 k b.A')
 scans:sU f0 f1 (fun k=>cn 1 k a.A'+cn 1 k b.A') hf
 made: ∀ts,Lay c f0 ts->f1.length<=29-> ∃l ta tb,Lay c f1 (ts++l)/\rO c f1 (ts++l) a ta/\rO c f1 (ts++l) b tb/\ta.nr/\tb.nr
section
variable{c:bo}{p:aK}{n:ac}{j' ka kb:List Int}{f0 f1 f2 fx fy:List bt}{hf Q' :Int->Nat}{a b s:be}{m m' :Nat}{fs:List bt}{ts:List FT}{ta tb t:FT}
def nJ.of(h:lu c f0 fx f1 a ka hf m FT.nr)(g:lu c f1 fy f2 b kb Q' m' FT.nr):nJ c f0 f2 a b ka kb (fun k=>hf k+Q' k):=
 ⟨h.ok,g.ok,h.j',g.j',h.hl,g.hl,h.once.join g.once,h.scans.join g.scans,fun ts hL h29=>by
  obtain⟨x,I,_⟩:=g.once.ext;have hle:=g.once.le;obtain⟨l,ta,D,V,Z⟩:=h.made ts hL (by omega);obtain⟨l2,tb,g1,g2,g3⟩:=g.made _ D h29;exact⟨l++l2,ta,tb,by rw [<-gJ];exact g1,by rw [<-gJ,I];exact V.more x l2,by rw [<-gJ];exact g2,Z,g3⟩⟩
def nJ.swap(h:nJ c f0 f1 a b ka kb hf):nJ c f0 f1 b a kb ka hf:=
 ⟨h.okb,h.oka,h.kib,h.kia,h.hlb,h.hla,h.once.swap,h.scans.swap,fun ts hL h29=>by
  obtain⟨l,ta,tb,D,V,Z,h4,h5⟩:=h.made ts hL h29;exact⟨l,tb,ta,D,Z,V,h5,h4⟩⟩
def nJ.sendA(h:nJ c f0 f1 a b ka kb hf)(Z:K3 ka)(hl:ka.length<=16){way:Int}(hw:way=1\/way=3){d_:List Int}(hc:way=1↔0<d_.length)(hin: ∀x∈d_,∃j:Nat,x=(j:Int)/\j<ka.length)(hcl:d_.length<=16):
  nJ c f0 (nR a way d_ f1) (lg a way d_ f1) b ka kb hf:=by
 have hlen:=qe a way d_ f1;refine⟨h.oka.send (by omega),h.okb,h.kia,h.kib,hcl,h.hlb,h.once.send way d_,h.scans.send way d_,fun ts hL h29=>?_⟩;obtain⟨l,ta,tb,D,V,g3,h4,h5⟩:=h.made ts hL (by omega);obtain⟨g1,g2⟩:=V.send D h4 (by omega) (by rw [h.kia];exact Z.le4) hw hc (by rw [h.kia];exact hin) hcl;exact⟨l++[ta],_,tb,by rw [<-gJ];exact g1,by rw [<-gJ];exact g2,by rw [<-gJ];exact g3.more [_] [ta],⟨by show(9:Int)≠8;decide,by show(9:Int)≠10;decide⟩,h5⟩
def nJ.sendB(h:nJ c f0 f1 a b ka kb hf)(Z:K3 kb)(hl:kb.length<=16){way:Int}(hw:way=1\/way=3){d_:List Int}(hc:way=1↔0<d_.length)(hin: ∀x∈d_,∃j:Nat,x=(j:Int)/\j<kb.length)(hcl:d_.length<=16):
  nJ c f0 (nR b way d_ f1) a (lg b way d_ f1) ka kb hf:=(h.swap.sendA Z hl hw hc hin hcl).swap
def nJ.oneA(h:nJ c f0 f1 a b ka kb hf)(Z:K3 ka)(hl:ka.length<=16):nJ c f0 (yg a f1) (BA a f1) b ka kb hf:=by
 unfold yg BA;by_cases e:a.h_=2
 ·rw [bq e,bq e];exact h
 ·rw [aZ e,aZ e];exact h.sendA Z hl (.inr rfl) (by simp) (fun x I=>by cases I) (by simp)
def nJ.oneB(h:nJ c f0 f1 a b ka kb hf)(Z:K3 kb)(hl:kb.length<=16):nJ c f0 (yg b f1) a (BA b f1) ka kb hf:=(h.swap.oneA Z hl).swap
def Gq{s:be}(hs:JY s)(fs:List bt):(BA s fs).A'.length<=s.A'.length:=by
 unfold BA;split
 ·exact eX _
 ·exact hs.pos
def MM(h:nJ c f0 f1 a b ka kb hf)(hl:a.A'.length+b.A'.length<=300)(C:Oh n ka kb j')(hp:sZ n.Op=2)(hat:a.h_=b.h_){hd:List Int}(hh:hd.length<=16)
  (hs: ∀ts ta tb,rO c f1 ts a ta->rO c f1 ts b tb->(∀x∈hd,∃j:Nat,x=(j:Int)/\j<j'.length)/\(a.h_=1->(∀q:dp,wX q c n (vO a.V') (vO b.V')=vO hd)/\SdB n (vO a.V') (vO b.V') a.j'.length)){fy:List bt}{m' :Nat}(hm:a.A'.length+b.A'.length<=m')(hy:fy.length<=f1.length/\f1.length<=fy.length+2):
  lu c f0 fy f1 (iO (V_ n j' a b) hd) j' hf m' (BB n):=by
 have h9:n.Op≠9:=by have:=lE C.op;omega
 have D:n.Op≠1:=fun h=>by rw [h]at hp;exact absurd hp (by decide)
 have h10:n.Op≠10:=by have:=lE C.op;omega
 have hlk:=C.lk;refine⟨h.oka.V_ h.okb (by omega) (by omega) (by omega) C.sm.a,rfl,hh,h.once.congr fun k=>DH h9 ..,h.scans.congr (fun k=>DH D ..) fun _=>rfl,by rw [Jn];omega,hy,fun ts hL h29=>?_⟩;obtain⟨l,ta,tb,g1,g2,g3,g4,g5⟩:=h.made ts hL h29;obtain⟨k1,k2⟩:=hs _ ta tb g2 g3;have za:=g2.sz;have zb:=g3.sz;exact⟨l,.bi n j' ta tb,g1,g2.V_ g3 g4 g5 hat hp (by rw [h.kia,h.kib];exact C.nw) C.k3.four ⟨C.k1,C.lk⟩ k1 hh (by omega) k2,⟨fun h8=>h8,h10⟩⟩
def acr(h:nJ c f0 f1 a b ka kb hf)(hl:a.A'.length+b.A'.length<=300)(C:Oh n ka kb j')(hn:n.Op=7)(hat:a.h_=b.h_){m' :Nat}(hm:a.A'.length+b.A'.length<=m')(hy:fy.length<=f1.length/\f1.length<=fy.length+2):
  ∃s f2,iy n j' a b (qW p f1)=some (s,qW p f2)/\lu c f0 fy f2 s j' hf m' (BB n):=by
 have hp:sZ n.Op=2:=by rw [hn];rfl
 have hkl:j'.length=ka.length:=by
  have:=C.kk;rw [rk7 hn C.la]at this;split at this
  ·rename_i he;injection this with this;injection this with this _;rw [<-this,List.length_zipWith];omega
  ·cases this
 have htl: ∀(q:dp) (x y:bT),wX q c n x y=SD x y:=fun q x y=>by unfold wX;simp [hn]
 have hsd: ∀x y:List Int,SdB n (vO x) (vO y) a.j'.length:=fun x y=>⟨fun V=>by omega,fun _=>⟨Fl x,Fl y⟩⟩;unfold iy;rw [y6 n j' h.oka h.okb,bh];by_cases D:a.h_=1
 ·rw [bq (by simpa using D),tW];simp only [bh];by_cases hh:a.V'=b.V'
  ·rw [bq (by simpa using hh)];refine⟨_,f1,rfl,MM h hl C hp hat (hd:=a.V') h.hla (fun ts ta tb hA hB=>⟨by rw [hkl,<-h.kia];exact hA.hin,fun _=>⟨fun q=>?_,hsd _ _⟩⟩) hm hy⟩;rw [htl,<-hh];unfold SD;by_cases h0:a.V'=[]
   ·rw [aZ (by rw [h0];show¬((1:Int)=2/\_);rintro⟨h,_⟩;exact absurd h (by decide)),h0];rfl
   ·rw [bq (by rw [Fm h0];exact⟨rfl,rfl,rfl⟩)]
  ·rw [aZ (by simpa using hh)];refine⟨_,f1,rfl,MM h hl C hp hat (hd:=[]) (by simp) (fun ts ta tb hA hB=>⟨fun x I=>(by cases I),fun _=>⟨fun q=>?_,hsd _ _⟩⟩) hm hy⟩;rw [htl];unfold SD;rw [aZ]
   ·rfl
   ·rintro⟨k1,k2,k3⟩;have ca: ∀x:List Int,(vO x).l_=x:=fun x=>by
     unfold vO;by_cases h:x=[]
     ·rw [bq h,h]
     ·rw [aZ h]
    rw [ca,ca]at k3;exact hh k3
 ·rw [aZ (by simpa using D)];exact⟨_,f1,rfl,MM h hl C hp hat (hd:=[]) (by simp) (fun ts ta tb hA hB=>⟨fun x I=>(by cases I),fun h=>absurd h D⟩) hm hy⟩
def OR(h:nJ c f0 f1 a b ka kb hf)(hl:a.A'.length+b.A'.length<=300)(Q:f1.length<=500)(C:Oh n ka kb j')(hn:n.Op=7): ∃s f2,lB (qW p f1) n j' [a,b]=some (s,qW p f2)/\lu c f0 f1 f2 s j' hf (a.A'.length+b.A'.length) (BB n):=by
 have ec:lB (qW p f1) n j' [a,b]=(if(a.h_ !=b.h_)then((eC (qW p f1) a).bind fun r2=>(eC r2.2 b).bind fun r3=>iy n j' r2.1 r3.1 r3.2)else(iy n j' a b (qW p f1))):=rfl;rw [ec];by_cases Q_:a.h_=b.h_
 ·rw [aZ (by simpa using Q_)];exact acr h hl C hn Q_ (eX _) ⟨eX _,by omega⟩
 ·have l1:=Ar a f1;have l2:=Ar b (yg a f1);rw [bq (by simpa using Q_),yf (by have:=h.oka.j';omega) (by omega),bh,yf (by have:=h.okb.j';omega) (by omega),bh];have na:=Gq h.oka f1;have nb:=Gq h.okb (yg a f1);exact acr ((h.oneA C.ka C.la).oneB C.kb C.lb) (by omega) C hn (by rw [EA,EA]) (by omega) (by omega)
def T4(hL:Lay c fs ts)(ha:rO c fs ts a ta)(K:rO c fs ts b tb)(hna:ta.nr)(hnb:tb.nr)(hfl:fs.length<30)(hat:a.h_=1)(hbt:b.h_=1)(h4b:K3 b.j'){k:List Int}(hn:n.Op=2)(hN:NW n a.j' b.j' k)(h4:(4:Int)∉k)(hk:1<=k.length/\k.length<=16)(hkl:k.length=a.j'.length+b.j'.length)(k_:ta.size<=300):
  Lay c (nR b 2 [] fs) (ts++[tb])/\rO c (nR b 2 [] fs) (ts++[tb]) (iO (V_ n k a (lg b 2 [] fs)) a.V') (.bi n k ta (.lf (kX fs.length b.j') b.j')):=by
 have hlen:=hL.len;have hp:sZ n.Op=2:=by rw [hn];rfl
 have haS:=ha.more [(⟨b.A',b.h_,2,[]⟩:bt)] [tb];refine⟨hL.snoc (K.laid hnb (way:=2) (d_:=[]) (by omega) (by simp) (fun x I=>by cases I) (by simp)),?_,rfl,⟨hp,by rw [ha.ks];exact hN,ha.W,VE (c:=c) hfl K.kn.1 K.kn.2 h4b.le4,hna,⟨by show(9:Int)≠8;decide,by show(9:Int)≠10;decide⟩⟩,.inl hat,h4,hk,fun x I=>?_,ha.hl,fun m hm D=>?_,⟨haS.up,?_⟩,fun _ q hq=>?_,?_⟩
 ·show(a.A'++(lg b 2 [] fs).A'.map (xf (a.A'.length:Int)))++[dh n ((a.A'.length:Int)-1) ((a.A'.length:Int)+((lg b 2 [] fs).A'.length:Int)-1)]=ta.flat 0++FT.flat (.lf (kX fs.length b.j') b.j') (0+ta.size)++[dh n ((0+ta.size:Nat)-1:Int) ((0+ta.size+1:Nat)-1:Int)];have e:(lg b 2 [] fs).A'=FT.flat (.lf (kX fs.length b.j') b.j') 0:=rfl;have e1:(lg b 2 [] fs).A'.length=1:=rfl;rw [e1,e,ha.A',ta.X',FT.flat_sh _ (d:=ta.size) (by omega) 0 (by simp [FT.size]),wV,oZ];rw [show((ta.size+1:Nat):Int)=(ta.size:Int)+((1:Nat):Int) by omega]
 ·obtain⟨j,D,V⟩:=ha.hin x I;exact⟨j,D,by show j<k.length;omega⟩
 ·have hm:m∈(ta.ns++[kX fs.length b.j'])++[n]:=hm;rcases oO.1 hm with hm|hm
  ·rcases oO.1 hm with hm|hm
   ·exact ha.leaf m hm D
   ·rw [np.1 hm]at D;exact absurd D (by show¬(9:Int)=1;decide)
  ·rw [np.1 hm]at D;omega
 ·intro _;refine⟨fs.length,⟨b.A',b.h_,2,[]⟩,tb,rfl,?_,?_,K.ks.symm,?_,.of ⟨by rw [<-tb.op_rt];exact hnb.1,by rw [<-tb.op_rt];exact hnb.2⟩ _⟩
  ·unfold nR;rw [sE (eX _),pX];rfl
  ·rw [<-hlen,sE (eX _),pX];rfl
  ·show(2:Int)=3↔a.h_=2;omega
 ·have hq' :dm q.J' ((fs.length:Nat):Int)=some ⟨b.A',b.h_,2,[]⟩:=by
   obtain⟨l,hq⟩:=hq;rw [hq,bR];unfold nR;rw [gJ,sE (eX _),pX];rfl
  have hpr:FT.pr q c (.lf (kX fs.length b.j') b.j')=⟨3,[]⟩:=by
   show wX q c (kX fs.length b.j') D7 D7=_;unfold wX inP;rw [aZ (by show¬((9:Int)=1);decide),bq (by rfl)];show(match dm q.J' ((fs.length:Nat):Int)with|some f=>if f.Way=1 then(⟨2,f.l_⟩:bT)else⟨3,[]⟩|none=>⟨3,[]⟩)=_;rw [hq'];show(if(2:Int)=1 then(⟨2,[]⟩:bT)else⟨3,[]⟩)=_;rw [aZ (by decide)]
  obtain⟨g1,g2⟩:=haS.ly hat q hq;refine⟨?_,⟨fun _=>?_,fun h7=>by omega⟩,g2,trivial⟩
  ·show wX q c n (ta.pr q c) (FT.pr q c (.lf (kX fs.length b.j') b.j'))=vO a.V';rw [hpr,g1];unfold wX;simp [hn]
  ·rw [hpr,g1];unfold qJ;rw [bq (by rfl)];have:=Fl a.V';simp [this]
 ·show ta.size+1+1<=400;omega
def XG{L R:List Int}(hP:Prs n ka.length (ka.length+kb.length) L R)(hL0:L≠[])(h:nJ c f0 f1 a b ka kb hf)(hl:a.A'.length+b.A'.length<=300)(C:Oh n ka kb j')(hn:n.Op=2)(hat:a.h_=b.h_)(Q_:a.V'≠[])(hlh:a.V'.length=b.V'.length)(hrel: ∀(i:Nat) (x y:Int),a.V'[i]? =some x->b.V'[i]? =some y-> ∃j:Nat,L[j]? =some x/\R[j]? =some y){m' :Nat}(hm:a.A'.length+b.A'.length<=m')(hy:fy.length<=f1.length/\f1.length<=fy.length+2):
  ∃s f2,iX n j' a b (qW p f1)=some (s,qW p f2)/\lu c f0 fy f2 s j' hf m' (BB n):=by
 have hp:sZ n.Op=2:=by rw [hn];rfl
 have hk:j'=ka++kb:=by have:=C.kk;rw [rk2 hn C.la C.lb]at this;injection this with this;injection this with this _;exact this.symm
 have hneb:b.V'≠[]:=fun e=>Q_ (uS (by rw [hlh,e];rfl));refine⟨iO (V_ n j' a b) a.V',f1,?_,MM h hl C hp hat h.hla (fun ts ta tb hA hB=>⟨fun x I=>?_,fun _=>⟨fun q=>?_,⟨fun _=>?_,fun h7=>by omega⟩⟩⟩) hm hy⟩
 ·unfold iX;rw [y6 n j' h.oka h.okb];rfl
 ·obtain⟨j,D,V⟩:=hA.hin x I;rw [h.kia]at V;exact⟨j,D,by rw [hk,jY];omega⟩
 ·unfold wX;simp [hn]
 ·rw [h.kia,Fm Q_,Fm hneb];exact hP.jn _ _ hL0 rfl rfl hlh hrel
def R5(l pl:List Int):(II l pl).length=pl.length:=by simp [II]
def Tt(h:nJ c f0 f1 a b ka kb hf)(hl:a.A'.length+b.A'.length<=300)(Q:f1.length<=500)(C:Oh n ka kb j')(hn:n.Op=2): ∃s f2,mw (qW p f1) n j' [a,b]=some (s,qW p f2)/\lu c f0 f1 f2 s j' hf (a.A'.length+b.A'.length) (BB n):=by
 have hp:sZ n.Op=2:=by rw [hn];rfl
 have hkk:=C.kk;rw [rk2 hn C.la C.lb]at hkk;injection hkk with hkk;injection hkk with hk htru;have oa:=h.oka.h_;have ob:=h.okb.h_;have pa:=h.oka.pos;have pb:=h.okb.pos;have kka:=h.oka.j';have kkb:=h.okb.j';have hha:=h.hla;have hhb:=h.hlb;have hla:=C.la;have hlb:=C.lb;have hlk:=C.lk;have h9:n.Op≠9:=by omega
 have h1n:n.Op≠1:=by omega
 have hkl:j'.length=ka.length+kb.length:=by rw [<-hk,jY]
 unfold mw;rw [show dm [a,b] (0:Int)=some a from rfl,show dm [a,b] (1:Int)=some b from rfl,bh,bh];by_cases D:a.h_=2\/b.h_=2
 ·rw [bq (by simpa using D)];have l1:=Ar a f1;have l2:=Ar b (yg a f1);have na:=Gq h.oka f1;have nb:=Gq h.okb (yg a f1);rw [yf (by omega) (by omega),bh,yf (by omega) (by omega),bh];have h' :=(h.oneA C.ka C.la).oneB C.kb C.lb;rw [y6 n j' h'.oka h'.okb];exact⟨_,_,rfl,MM h' (by omega) C hp (by rw [EA,EA]) (hd:=[]) (by simp) (fun ts ta tb hA hB=>⟨fun x I=>(by cases I),fun h=>by rw [EA]at h;cases h⟩) (by omega) (by omega)⟩
 rw [aZ (by simpa using D)];obtain⟨L,R,hP⟩:=aaB htru C.la C.lb;rw [h.kia,hP.code,bh];dsimp only;have hLR:=hP.len;have hL16:=hP.le;by_cases h0:L.length=0
 ·rw [bq (by simpa using h0),sJ (by simp) (by omega) (by omega),bh];have hs:=h.okb.send (way:=2) (d_:=[]) (fs:=f1) (by simp);have l1:=qe b 2 [] f1;rw [y6 n j' h.oka hs];refine⟨iO (V_ n j' a (lg b 2 [] f1)) a.V',nR b 2 [] f1,rfl,h.oka.V_ hs (by omega) (by omega) (by simp [lg];omega) C.sm.a,rfl,hha,?_,?_,?_,by omega,fun ts hL h29=>?_⟩
  ·exact(h.once.swap.send 2 []).swap.congr fun k=>DH h9 ..
  ·exact(h.scans.swap.send 2 []).swap.congr (fun k=>DH h1n ..) fun _=>rfl
  ·rw [Jn];show a.A'.length+1+1<=_;omega
  ·obtain⟨l,ta,tb,g1,g2,g3,g4,g5⟩:=h.made ts hL (by omega);have k_:=g2.sz;obtain⟨k1,k2⟩:=T4 (n:=n) (k:=j') g1 g2 g3 g4 g5 (by omega) (by omega) (by omega) (by rw [h.kib];exact C.kb) hn (by rw [h.kia,h.kib];exact C.nw) C.k3.four ⟨C.k1,C.lk⟩ (by rw [h.kia,h.kib];exact hkl) (by omega);exact⟨l++[tb],.bi n j' ta (.lf (kX f1.length b.j') b.j'),by rw [<-gJ];exact k1,by rw [<-gJ];exact k2,⟨fun h8=>h8,by show n.Op≠10;omega⟩⟩
 rw [aZ (by simpa using h0)];have hL0:L≠[]:=fun e=>h0 (by rw [e];rfl);have inRb: ∀y∈R,∃j:Nat,y=(j:Int)/\j<kb.length:=fun y hy=>by
  obtain⟨j,D,V⟩:=hP.inR y hy;exact⟨j,D,by omega⟩
 obtain⟨ok,q1,q2⟩:=A7 a.V' L (by omega);obtain⟨ok2,w1,w2⟩:=A7 b.V' R (by omega);have hpl:=Gp (wa L) a.V';have hpl2:=Gp (wa R) b.V';have rng: ∀{of n_:List Int} {w:Nat},n_.length<=w-> ∀k∈CK (wa n_) of,0<=k/\k<(w:Int):=fun{of n_ w} hw k hk=>by
  obtain⟨j,D,V⟩:=Ps hw k hk;omega
 have g1:lN a.V' L R=some (II R (CK (wa L) a.V'),ok):=by
  unfold lN;rw [q1,bh,Ap R _ _ [] (by simp;omega) (rng (by omega)),lz]
 have g2:lN b.V' R L=some (II L (CK (wa R) b.V'),ok2):=by
  unfold lN;rw [w1,bh,Ap L _ _ [] (by simp;omega) (rng (by omega)),lz]
 have atIn: ∀{l pl:List Int} {w:Nat},(∀y∈l,∃j:Nat,y=(j:Int)/\j<w)->(∀k∈pl,0<=k/\k<(l.length:Int))-> ∀x∈II l pl,∃j:Nat,x=(j:Int)/\j<w:=fun{l pl w} hl hpl x I=>by
  unfold II at I;obtain⟨k,hk,rfl⟩:=Bo.1 I;have:=hpl k hk;have o_:k.toNat<l.length:=by omega
  rw [qV o_];exact hl _ (zW o_)
 have atRel: ∀{of n_ other:List Int},(∀c∈of,c∈n_)->n_.length=other.length-> ∀(i:Nat) (x y:Int),of[i]? =some x->(II other (CK (wa n_) of))[i]? =some y-> ∃j:Nat,n_[j]? =some x/\other[j]? =some y:=fun{of n_ other} hin hlen i x y I hy=>by
  rw [KH hin]at hy;unfold II at hy;rw [List.map_map,D9,I]at hy;obtain⟨j,j1,j2,j3⟩:=(wD n_ x).2 ((wD n_ x).1.2 (hin x (ud I)));refine⟨j,j3,?_⟩;have hy:some ((other[(wa n_ x).toNat]?).getD 0)=some y:=hy;rw [j1,yJ]at hy;rw [qV (by omega)]at hy ⊢;exact hy
 show∃s f2,((lN a.V' L R).bind _)=_/\_;rw [g1,bh];dsimp only
 cases ok with
 |true=>
  obtain⟨ane,ain⟩:=q2 rfl;have alen:(II R (CK (wa L) a.V')).length=a.V'.length:=by rw [R5,KH ain,BG]
  have apos:0<a.V'.length:=List.length_pos_iff.2 ane;rw [bq rfl];show∃s f2,((fO b.V' (II R (CK (wa L) a.V'))).bind _)=_/\_;rw [tW,bh];by_cases he:b.V'=II R (CK (wa L) a.V')
  ·rw [aZ (by simp [he])];exact XG hP hL0 h (by omega) C hn (by omega) ane (by rw [he,alen]) (by rw [he];exact atRel ain hLR) (eX _) ⟨eX _,by omega⟩
  ·rw [bq (by simp [he]),sJ (by omega) (by omega) (by omega),bh];have l1:=qe b 1 (II R (CK (wa L) a.V')) f1;have h' :=h.sendB C.kb C.lb (way:=1) (d_:=II R (CK (wa L) a.V')) (.inl rfl) ⟨fun _=>by omega,fun _=>rfl⟩ (atIn inRb (rng (by omega))) (by omega);exact XG hP hL0 h' (by show a.A'.length+1<=300;omega) C hn (by show a.h_=1;omega) ane (by show a.V'.length=(II R (CK (wa L) a.V')).length;omega) (atRel ain hLR) (by show a.A'.length+1<=_;omega) (by omega)
 |false=>
  rw [aZ (by simp)];show∃s f2,((lN b.V' R L).bind _)=_/\_;rw [g2,bh];dsimp only
  cases ok2 with
  |true=>
   obtain⟨bne,bin⟩:=w2 rfl;have blen:(II L (CK (wa R) b.V')).length=b.V'.length:=by rw [R5,KH bin,BG]
   have bpos:0<b.V'.length:=List.length_pos_iff.2 bne;rw [bq rfl,sJ (by omega) (by omega) (by omega),bh];have l1:=qe a 1 (II L (CK (wa R) b.V')) f1;have h' :=h.sendA C.ka C.la (way:=1) (d_:=II L (CK (wa R) b.V')) (.inl rfl) ⟨fun _=>by omega,fun _=>rfl⟩ (atIn hP.inL (rng (by omega))) (by omega);exact XG hP hL0 h' (by show 1+b.A'.length<=300;omega) C hn (by show 1=b.h_;omega) (fun e=>by have e:II L (CK (wa R) b.V')=[]:=e;rw [e]at blen;simp at blen;omega) blen (fun i x y I hy=>by
    obtain⟨j,j1,j2⟩:=atRel bin hLR.symm i y x hy I;exact⟨j,j2,j1⟩) (by show 1+b.A'.length<=_;omega) (by omega)
  |false=>
   have l1:=qe a 1 L f1;have l2:=qe b 1 R (nR a 1 L f1);rw [aZ (by simp),sJ (by omega) (by omega) (by omega),bh,sJ (by omega) (by omega) (by omega),bh];have h' :=(h.sendA C.ka C.la (way:=1) (d_:=L) (.inl rfl) ⟨fun _=>by omega,fun _=>rfl⟩ hP.inL hL16).sendB C.kb C.lb (way:=1) (d_:=R) (.inl rfl) ⟨fun _=>by omega,fun _=>rfl⟩ inRb (by omega);exact XG hP hL0 h' (by show 1+1<=300;omega) C hn rfl hL0 hLR (fun i x y I hy=>⟨i,I,hy⟩) (by show 1+1<=_;omega) (by omega)
end
end
section
def xE(l:List ac)(a b:Nat):List ac:=(l.take b).drop a
def G9(l:List ac){a b c:Nat}(D:a<=b)(V:b<=c)(Z:c<=l.length):xE l a c=xE l a b++xE l b c:=by
 unfold xE;have e:l.take c=l.take b++(l.take c).drop b:=by
  have:=(vn b (l.take c)).symm;rw [B5,show min b c=b by omega]at this;exact this
 conv=>lhs;rw [e]
 rw [LM (by rw [Br];omega)]
def G8{l:List ac}{j:Nat}{n:ac}(h:l[j]? =some n):xE l j (j+1)=[n]:=by
 have hj:=(oC.1 h).1;unfold xE;rw [List.take_add_one,h,LM (by rw [Br];omega),FX (by rw [Br];omega)];rfl
def Wm{op k:Int}{n:ac}(h:n.Op≠op):cn op k [n]=0:=DG fun m hm=>by
 rw [np.1 hm];exact .inl h
section
variable{l:cQ}{c:bo}{sz:Nat->Nat}{ks:Nat->List Int}{p:aK}
structure ZN(l:cQ)(c:bo)(ks:Nat->List Int)(p:aK):Prop where
 tree:p.tree=l
 cat:p.catalog=c
 j': ∀j,j<l.u'.length->dm p.j' (j:Int)=some (ks j)
def T5{α β:Type}(x:Option (α×β)):(x.bind fun r=>some (r.1,r.2))=x:=by cases x<;>rfl
def uY{p:aK}{self:aK->Int->Option (be×aK)}{n:ac}{j i:Nat}{parts:List be}{fs:List bt}{k:List Int}(hk:dm p.j' (j:Int)=some k){code:Option (be×aK)}
    (h:(n.Op=1/\code=(mu (qW p fs) n k parts).map fun mr=>(mr,qW p fs))\/(n.Op=3/\code=(kO (qW p fs) n k parts).map fun mr=>(mr,qW p fs))\/(n.Op=5/\code=(kf (qW p fs) n k parts).map fun mr=>(mr,qW p fs))\/
      (n.Op=2/\code=mw (qW p fs) n k parts)\/(n.Op=4/\code=lD (qW p fs) n k parts)\/(n.Op=6/\code=jG (qW p fs) n k parts)\/(n.Op=7/\code=lB (qW p fs) n k parts)\/(n.Op=8/\code=lC (qW p fs) n k parts)):
    cO self (j:Int) n 0 i parts (qW p fs)=code:=by
  have hk' :dm (qW p fs).j' (j:Int)=some k:=hk;unfold cO;rw [hk',bh];rcases h with⟨ho,rfl⟩|⟨ho,rfl⟩|⟨ho,rfl⟩|⟨ho,rfl⟩|⟨ho,rfl⟩|⟨ho,rfl⟩|⟨ho,rfl⟩|⟨ho,rfl⟩<;>(rw [ho];exact T5 _)
def Ng(hS:sC l)(hg:EX l sz ks): ∀j,j<l.u'.length->K3 (ks j)/\1<=(ks j).length:=by
 intro j
 induction j using Nat.strongRecOn with
 |ind j ih=>
  intro hj;obtain⟨n,F⟩:=hg j hj;have hnm:n∈l.u':=by
   have:=F.node;rw [bR]at this;exact ud this
  have hz1:=F.pos;have hk:=F.j';have ln: ∀i,i<l.u'.length->(ks i).length<=16:=fun i hi=>by obtain⟨_,F'⟩:=hg i hi;exact F'.len
  by_cases D:n.Op=1
  ·obtain⟨hA,hB,hz⟩:=F.lf D;rw [hA,hB,bq (by decide)]at hk;exact UX (hS n hnm) F.op K3.nil K3.nil (by simp) (by simp) (fun h=>absurd D h) hk
  ·by_cases K:n.Op=2\/n.Op=7
   ·obtain⟨hj0,hB,o_,hA,hz⟩:=F.bi K;have ia:=ih (j-1-sz (j-1)) (by omega) (by omega);have ib:=ih (j-1) (by omega) (by omega);rw [aZ (by omega),aZ (by omega),show n.A.toNat=j-1-sz (j-1) by omega,show n.B.toNat=j-1 by omega]at hk;exact UX (hS n hnm) F.op ia.1 ib.1 (ln _ (by omega)) (ln _ (by omega)) (fun _=>ia.2) hk
   ·obtain⟨hj0,hA,hB,hz⟩:=F.un D (fun h=>K (.inl h)) (fun h=>K (.inr h));have ia:=ih (j-1) (by omega) (by omega);rw [aZ (by omega),bq (by omega),show n.A.toNat=j-1 by omega]at hk;exact UX (hS n hnm) F.op ia.1 K3.nil (ln _ (by omega)) (by simp) (fun _=>ia.2) hk
def lu.mono{f0 fx f2:List bt}{s:be}{j':List Int}{hf Q' :Int->Nat}{m:Nat}{P P' :FT->Prop}(h:lu c f0 fx f2 s j' hf m P)(e: ∀k,Q' k=hf k)(g: ∀t,P t->P' t):lu c f0 fx f2 s j' Q' m P' :=
 ⟨h.ok,h.j',h.hl,h.once,h.scans.congr (fun _=>rfl) e,h.len,h.le,fun ts hL h29=>by
  obtain⟨l,t,D,V,Z⟩:=h.made ts hL h29;exact⟨l,t,D,V,g t Z⟩⟩
structure aeM(c:bo)(n:ac):Prop where
 ex: ∃tb,dm c.i_ n.M'=some tb/\0<=n.M'/\n.U'=tb.b_.map (fun x=>x.Kind)/\tb.I'.length<=10/\ ∀x∈tb.I',∃k:Nat,x=(k:Int)/\k<tb.b_.length
def Mi(hS:sC l)(hle:l.u'.length<=60)(hg:EX l sz ks)(hP:ZN l c ks p)(hT: ∀n∈l.u',n.Op=1->aeM c n):
  ∀(j:Nat),j<l.u'.length-> ∀(fu:Nat),j<fu-> ∀fs:List bt,fs.length+2*sz j<=400-> ∃s f2 fx m,eO fu (qW p fs) (j:Int)=some (s,qW p f2)/\lu c fs fx f2 s (ks j) (fun k=>cn 1 k (xE l.u' (j+1-sz j) (j+1))) m (fun t=>t.op≠10/\((j+1≠l.u'.length\/s.h_=1)->t.op≠8))/\s.A'.length<=sz j/\fs.length<=f2.length/\f2.length<=fs.length+2*sz j:=by
 intro j
 induction j using Nat.strongRecOn with
 |ind j ih=>
  intro hj fu hfu fs hfs;obtain⟨fu,rfl⟩: ∃k,fu=k+1:=⟨fu-1,by omega⟩;obtain⟨n,F⟩:=hg j hj;have hgn:l.u'[j]? =some n:=by have:=F.node;rw [bR]at this;exact this
  have hnm:n∈l.u':=ud hgn;have hSn:=hS n hnm;have hkl:=F.len;have hzl:=F.le;have hz1:=F.pos;obtain⟨hk3,hk1⟩:=Ng hS hg j hj;have ln: ∀i,i<l.u'.length->(ks i).length<=16:=fun i hi=>by obtain⟨_,F'⟩:=hg i hi;exact F'.len
  have hnode:dm (qW p fs).tree.u' (j:Int)=some n:=by
   show dm p.tree.u' (j:Int)=some n;rw [hP.tree];exact F.node
  have hlast:j+1≠l.u'.length->n.Op≠8:=fun h h8=>h (F.last h8);unfold eO;rw [hnode,bh];have hkk:=F.j';by_cases D:n.Op=1
  ·obtain⟨hA,hB,hz⟩:=F.lf D;rw [hA,hB,bq (by decide)]at hkk;obtain⟨tb,Y,h0,hks,hkb,hky⟩:=(hT n hnm D).ex;have C:Oh n [] [] (ks j):=⟨hSn,F.op,F.own,K3.nil,K3.nil,by simp,by simp,hkk,hk1,hkl,hk3⟩;obtain⟨s,f2,g1,g2⟩:=SX (p:=p) (f1:=fs) Y hP.cat D ⟨hA,hB⟩ C h0 hks hkb hky;have gl:=g2.len;have ge:=g2.le;refine⟨s,f2,fs,0,?_,g2.mono (fun k=>?_) (fun t Y=>⟨Y.2,fun _=>Y.1⟩),by omega,by omega,by omega⟩
   ·unfold cO;rw [show dm [n.A,n.B] ((0:Nat):Int)=some n.A from rfl,bh,aZ (by rw [hA];decide)];unfold cO;rw [show dm [n.A,n.B] ((0+1:Nat):Int)=some n.B from rfl,bh,aZ (by rw [hB];decide),uY (hP.j' j hj) (.inl ⟨D,rfl⟩)];exact g1
   ·rw [hz,show j+1-1=j by omega,G8 hgn]
  ·by_cases K:n.Op=2\/n.Op=7
   ·obtain⟨hj0,hB,o_,hA,hz⟩:=F.bi K;have hA' :n.A=((j-1-sz (j-1):Nat):Int):=by omega
    have hB' :n.B=((j-1:Nat):Int):=by omega
    obtain⟨nA,FA⟩:=hg (j-1-sz (j-1)) (by omega);obtain⟨nB,FB⟩:=hg (j-1) (by omega);have za:=FA.le;have zb:=FB.le;have zb1:=FB.pos;obtain⟨a,f1,xa,ma,a1,a2,a5,a6,a7⟩:=ih (j-1-sz (j-1)) (by omega) (by omega) fu (by omega) fs (by omega);obtain⟨b,f2,xb,mb,b1,b2,b5,b6,b7⟩:=ih (j-1) (by omega) (by omega) fu (by omega) f1 (by omega);have hR:=nJ.of (a2.mono (P' :=FT.nr) (fun _=>rfl) fun t Y=>⟨Y.2 (.inl (by omega)),Y.1⟩) (b2.mono (P' :=FT.nr) (fun _=>rfl) fun t Y=>⟨Y.2 (.inl (by omega)),Y.1⟩);rw [aZ (by omega),aZ (by omega),show n.A.toNat=j-1-sz (j-1) by omega,show n.B.toNat=j-1 by omega]at hkk;have C:Oh n (ks (j-1-sz (j-1))) (ks (j-1)) (ks j):=⟨hSn,F.op,F.own,(Ng hS hg _ (by omega)).1,(Ng hS hg _ (by omega)).1,ln _ (by omega),ln _ (by omega),hkk,hk1,hkl,hk3⟩;have hQ: ∀k,cn 1 k (xE l.u' (j+1-sz j) (j+1))=cn 1 k (xE l.u' (j-1-sz (j-1)+1-sz (j-1-sz (j-1))) (j-1-sz (j-1)+1))+cn 1 k (xE l.u' (j-1+1-sz (j-1)) (j-1+1)):=fun k=>by
     rw [show j-1+1=j by omega,G9 l.u' (a:=j+1-sz j) (b:=j) (c:=j+1) (by omega) (by omega) (by omega),G8 hgn,ux,Wm D,
      G9 l.u' (a:=j+1-sz j) (b:=j-sz (j-1)) (c:=j) (by omega) (by omega) (by omega),ux,show j-1-sz (j-1)+1=j-sz (j-1) by omega,show j-sz (j-1)-sz (j-1-sz (j-1))=j+1-sz j by omega]
     rfl
    have key: ∀{code:Option (be×aK)},(∃s f3,code=some (s,qW p f3)/\lu c fs f2 f3 s (ks j) (fun k=>cn 1 k (xE l.u' (j-1-sz (j-1)+1-sz (j-1-sz (j-1))) (j-1-sz (j-1)+1))+cn 1 k (xE l.u' (j-1+1-sz (j-1)) (j-1+1))) (a.A'.length+b.A'.length) (BB n))->(cO (eO fu) (j:Int) n 0 2 [a,b] (qW p f2)=code)-> ∃s f3 fx m,cO (eO fu) (j:Int) n 2 0 ([]:List be) (qW p fs)=some (s,qW p f3)/\lu c fs fx f3 s (ks j) (fun k=>cn 1 k (xE l.u' (j+1-sz j) (j+1))) m (fun t=>t.op≠10/\((j+1≠l.u'.length\/s.h_=1)->t.op≠8))/\s.A'.length<=sz j/\fs.length<=f3.length/\f3.length<=fs.length+2*sz j:=by
     rintro code ⟨s,f3,g1,g2⟩ hc;have gl:=g2.len;have ge:=g2.le;refine⟨s,f3,f2,_,?_,g2.mono hQ (fun t Y=>⟨Y.2,fun _=>Y.1 (by omega)⟩),by omega,by omega,by omega⟩;unfold cO;rw [show dm [n.A,n.B] ((0:Nat):Int)=some n.A from rfl,bh,bq (by simp;omega),hA',a1,bh,cK (by simp),bh,lz];unfold cO;rw [show dm [n.A,n.B] ((0+1:Nat):Int)=some n.B from rfl,bh,bq (by simp;omega),hB'];show((eO fu (qW p f1) ((j-1:Nat):Int)).bind _)=_;rw [b1,bh,cK (by simp),bh];exact hc.trans g1
    rcases K with V|h7
    ·exact key (Tt (p:=p) hR (by omega) (by omega) C V) (uY (hP.j' j hj) (.inr (.inr (.inr (.inl ⟨V,rfl⟩)))))
    ·exact key (OR (p:=p) hR (by omega) (by omega) C h7) (uY (hP.j' j hj) (.inr (.inr (.inr (.inr (.inr (.inr (.inl ⟨h7,rfl⟩))))))))
   ·obtain⟨hj0,hA,hB,hz⟩:=F.un D (fun h=>K (.inl h)) (fun h=>K (.inr h));have hA' :n.A=((j-1:Nat):Int):=by omega
    obtain⟨nA,FA⟩:=hg (j-1) (by omega);have za:=FA.le;have za1:=FA.pos;obtain⟨a,f1,xa,ma,a1,a2,a5,a6,a7⟩:=ih (j-1) (by omega) (by omega) fu (by omega) fs (by omega);have hR:=a2.mono (P' :=FT.nr) (fun _=>rfl) fun t Y=>⟨Y.2 (.inl (by omega)),Y.1⟩;rw [aZ (by omega),bq (by omega),show n.A.toNat=j-1 by omega]at hkk;have C:Oh n (ks (j-1)) [] (ks j):=⟨hSn,F.op,F.own,(Ng hS hg _ (by omega)).1,K3.nil,ln _ (by omega),by simp,hkk,hk1,hkl,hk3⟩;have hQ: ∀k,cn 1 k (xE l.u' (j+1-sz j) (j+1))=cn 1 k (xE l.u' (j-1+1-sz (j-1)) (j-1+1)):=fun k=>by
     rw [show j-1+1=j by omega,G9 l.u' (a:=j+1-sz j) (b:=j) (c:=j+1) (by omega) (by omega) (by omega),G8 hgn,ux,Wm D,show j-sz (j-1)=j+1-sz j by omega];rfl
    have key: ∀{code:Option (be×aK)},(∃s f3,code=some (s,qW p f3)/\lu c fs f1 f3 s (ks j) (fun k=>cn 1 k (xE l.u' (j-1+1-sz (j-1)) (j-1+1))) a.A'.length (BB n)/\(n.Op=8->s.h_=2))->(cO (eO fu) (j:Int) n 0 2 [a] (qW p f1)=code)-> ∃s f3 fx m,cO (eO fu) (j:Int) n 2 0 ([]:List be) (qW p fs)=some (s,qW p f3)/\lu c fs fx f3 s (ks j) (fun k=>cn 1 k (xE l.u' (j+1-sz j) (j+1))) m (fun t=>t.op≠10/\((j+1≠l.u'.length\/s.h_=1)->t.op≠8))/\s.A'.length<=sz j/\fs.length<=f3.length/\f3.length<=fs.length+2*sz j:=by
     rintro code ⟨s,f3,g1,g2,g3⟩ hc;have gl:=g2.len;have ge:=g2.le;refine⟨s,f3,f1,_,?_,g2.mono hQ (fun t Y=>⟨Y.2,fun h=>Y.1 (h.elim hlast fun h h8=>by have:=g3 h8;omega)⟩),by omega,by omega,by omega⟩;unfold cO;rw [show dm [n.A,n.B] ((0:Nat):Int)=some n.A from rfl,bh,bq (by simp;omega),hA',a1,bh,cK (by simp),bh,lz];unfold cO;rw [show dm [n.A,n.B] ((0+1:Nat):Int)=some n.B from rfl,bh,aZ (by rw [hB];decide)];exact hc.trans g1
    have wk: ∀{code:Option (be×aK)},n.Op≠8->(∃s f3,code=some (s,qW p f3)/\lu c fs f1 f3 s (ks j) (fun k=>cn 1 k (xE l.u' (j-1+1-sz (j-1)) (j-1+1))) a.A'.length (BB n))-> ∃s f3,code=some (s,qW p f3)/\lu c fs f1 f3 s (ks j) (fun k=>cn 1 k (xE l.u' (j-1+1-sz (j-1)) (j-1+1))) a.A'.length (BB n)/\(n.Op=8->s.h_=2):=fun h8 ⟨s,f3,g1,g2⟩=>⟨s,f3,g1,g2,fun h=>absurd h h8⟩;rcases lE F.op with h|h|h|h|h|h|h|h
    ·exact absurd h D
    ·exact absurd (.inl h) K
    ·exact key (wk (by omega) (NL (p:=p) hR (by omega) C h)) (uY (hP.j' j hj) (.inr (.inl ⟨h,rfl⟩)))
    ·exact key (wk (by omega) (PS (p:=p) hR (by omega) (by omega) C h)) (uY (hP.j' j hj) (.inr (.inr (.inr (.inr (.inl ⟨h,rfl⟩))))))
    ·exact key (wk (by omega) (KE (p:=p) hR (by omega) C h)) (uY (hP.j' j hj) (.inr (.inr (.inl ⟨h,rfl⟩))))
    ·exact key (wk (by omega) (IH (p:=p) hR (by omega) (by omega) C h)) (uY (hP.j' j hj) (.inr (.inr (.inr (.inr (.inr (.inl ⟨h,rfl⟩)))))))
    ·exact absurd (.inr h) K
    ·exact key (by obtain⟨s,f3,g1,g2,g3⟩:=PC (p:=p) hR (by omega) (by omega) C h;exact⟨s,f3,g1,g2,fun _=>g3⟩) (uY (hP.j' j hj) (.inr (.inr (.inr (.inr (.inr (.inr (.inr ⟨h,rfl⟩))))))))
end
end
section
def FT.kl16(t:FT):t.W-> ∀k∈t.kl,k.length<=16:=by
 induction t with
 |lf n q=>intro h k hk;rw [np.1 hk];exact h.2.len
 |un n q a ih=>
  intro h k hk;rcases oO.1 hk with hk|hk
  ·exact ih h.2.2.1 k hk
  ·rw [np.1 hk];exact h.2.1.len
 |bi n q a b iha ihb=>
  intro h k hk;rcases oO.1 hk with hk|hk
  ·rcases oO.1 hk with hk|hk
   ·exact iha h.2.2.1 k hk
   ·exact ihb h.2.2.2.1 k hk
  ·rw [np.1 hk];exact h.2.1.len
def FT.ns_mem(t:FT): ∀(s:Nat) (n:ac),n∈t.ns-> ∃A B,dh n A B∈t.flat s:=by
 induction t with
 |lf m q=>intro s n h;rw [np.1 h];exact⟨_,_,np.2 rfl⟩
 |un m q a ih=>
  intro s n h;rcases oO.1 h with h|h
  ·obtain⟨A,B,g⟩:=ih s n h;exact⟨A,B,uR _ g⟩
  ·rw [np.1 h];exact⟨_,_,CR _ (np.2 rfl)⟩
 |bi m q a b iha ihb=>
  intro s n h;rcases oO.1 h with h|h
  ·rcases oO.1 h with h|h
   ·obtain⟨A,B,g⟩:=iha s n h;exact⟨A,B,uR _ (uR _ g)⟩
   ·obtain⟨A,B,g⟩:=ihb (s+a.size) n h;exact⟨A,B,uR _ (CR _ g)⟩
  ·rw [np.1 h];exact⟨_,_,CR _ (np.2 rfl)⟩
def FT.ends(t:FT):t.W-> ∀(s:Nat) (e:ac),e∈t.flat s->e.Op=8\/e.Op=10-> ∃A B,e=dh t.rt A B:=by
 have low: ∀{t:FT},t.nr-> ∀{e:ac} {A B:Int},e.Op=8\/e.Op=10->e=dh t.rt A B->False:=fun{t} hn {e A B} h8 he=>by
  have:e.Op=t.op:=by rw [he,t.op_rt];rfl
  have:=hn.1;have:=hn.2;omega
 induction t with
 |lf n q=>intro h s e he _;exact⟨_,_,np.1 he⟩
 |un n q a ih=>
  intro h s e he h8;rcases oO.1 he with he|he
  ·obtain⟨A,B,g⟩:=ih h.2.2.1 s e he h8;exact(low h.2.2.2.1 h8 g).elim
  ·exact⟨_,_,np.1 he⟩
 |bi n q a b iha ihb=>
  intro h s e he h8;rcases oO.1 he with he|he
  ·rcases oO.1 he with he|he
   ·obtain⟨A,B,g⟩:=iha h.2.2.1 s e he h8;exact(low h.2.2.2.2.1 h8 g).elim
   ·obtain⟨A,B,g⟩:=ihb h.2.2.2.1 _ e he h8;exact(low h.2.2.2.2.2 h8 g).elim
  ·exact⟨_,_,np.1 he⟩
structure Whole(c:bo)(fs:List bt)(ts:List FT)(s:be)(t:FT):Prop where
 cat:NZ c=true
 lay:Lay c fs ts
 side:rO c fs ts s t
 h_:s.h_=2
 ten:t.op≠10
 once:vx [] fs (fun k=>cn 9 k s.A')
 n29:fs.length<=29
 n60: ∀f∈fs++[(⟨s.A',2,4,[]⟩:bt)],f.u'.length<=60
def WB(ts:List FT)(t:FT):List (List (List Int)):=(ts++[t]).map FT.kl
def md(fs:List bt)(s:be):dp:=⟨fs++[⟨s.A',2,4,[]⟩]⟩
section
variable{c:bo}{fs:List bt}{ts:List FT}{s:be}{t:FT}
structure ZK(c:bo)(fs:List bt)(ts:List FT)(f:bt)(u:FT):Prop where
 A':f.u'=u.flat 0
 W:u.W
 h_:f.At=1\/f.At=2
 leaf: ∀n∈u.ns,n.Op=1->f.At=1/\QA c n
 up:u.Up (Uu fs ts f.At)
def Whole.tree(h:Whole c fs ts s t){i:Nat}{f:bt}(Q:(md fs s).J'[i]? =some f): ∃u,(ts++[t])[i]? =some u/\ZK c (fs.take i) (ts.take i) f u/\((i<fs.length/\fs[i]? =some f/\QH c (fs.take i) (ts.take i) f u)\/(i=fs.length/\f=⟨s.A',2,4,[]⟩/\u=t)):=by
 have hi:=(oC.1 Q).1;have hlen:=h.lay.len;have Q:(fs++[(⟨s.A',2,4,[]⟩:bt)])[i]? =some f:=Q;have hi:i<(fs++[(⟨s.A',2,4,[]⟩:bt)]).length:=hi;rw [jY,Eb]at hi;rcases mN i fs.length with hl|hl
 ·rw [lT hl]at Q;obtain⟨u,D,V⟩:=h.lay.h_ i f Q;exact⟨u,by rw [lT (by omega)];exact D,⟨V.A',V.W,V.h_,V.leaf,V.up⟩,.inl ⟨hl,Q,V⟩⟩
 ·have he:i=fs.length:=by omega
  subst he;rw [sE (eX _),pX]at Q;have Q:some (⟨s.A',2,4,[]⟩:bt)=some f:=Q;cases Q;have hS:=h.side;have ha:=h.h_;refine⟨t,by rw [<-hlen,sE (eX _),pX];rfl,?_,.inr ⟨rfl,rfl,rfl⟩⟩;rw [s8 (eX _),s8 (by omega)];exact⟨hS.A',hS.W,.inr rfl,fun n hn D=>by have:=(hS.leaf n hn D).1;omega,by have:=hS.up;rw [ha]at this;exact this⟩
def Gm{KS:List (List (List Int))}{i:Nat}{u:FT}(h:KS[i]? =some u.kl)(hs:u.size<=100000):Hc KS i u.ks:=by
 have hp:=u.pos;have hl:=u.kl_len;refine⟨u.kl,h,?_⟩;rw [cJ (by omega) (by omega),hl,show(u.size:Int)-1=((u.size-1:Nat):Int) by omega,bR];exact u.kl_last
def Ia{i:Nat}{u:FT}(h:(ts++[t])[i]? =some u):(WB ts t)[i]? =some u.kl:=by
 unfold WB;rw [D9,h];rfl
def Whole.len(h:Whole c fs ts s t):(md fs s).J'.length=fs.length+1:=by simp [md]
def Whole.size(h:Whole c fs ts s t){i:Nat}{f:bt}(Q:(md fs s).J'[i]? =some f){u:FT}(hu:f.u'=u.flat 0):u.size<=60:=by
 have:=h.n60 f (ud Q);rw [hu,u.X']at this;exact this
def Whole.reads(h:Whole c fs ts s t){i:Nat}{f:bt}{u:FT}(hT:ZK c (fs.take i) (ts.take i) f u){j:Nat}{e:ac}(he:f.u'[j]? =some e)(h9:e.Op=9):
  ∃(k:Nat) (g:bt) (v:FT),e.M'=(k:Int)/\k<i/\fs[k]? =some g/\ts[k]? =some v/\e.U'=v.ks/\(g.Way=3↔f.At=2)/\(vy v.rt none\/ ∃n,vy v.rt (some n)/\f.u'[j+1]? =some (dh n (j:Int) (-1))):=by
 have he' :=he;rw [hT.A']at he';obtain⟨m,rfl,hc⟩:=u.up_at hT.W hT.up 0 j e he' (by rw [h9];rfl);have h9:m.Op=9:=h9;have get: ∀{o:Option ac},Uu (fs.take i) (ts.take i) f.At m o-> ∃(k:Nat) (g:bt) (v:FT),m.M'=(k:Int)/\k<i/\fs[k]? =some g/\ts[k]? =some v/\m.U'=v.ks/\(g.Way=3↔f.At=2)/\vy v.rt o:=fun{o} hu=>by
  obtain⟨k,g,v,D,V,Z,h4,h5,h6⟩:=hu h9;have hk:=(oC.1 V).1;rw [Br]at hk;rw [zT (by omega)]at V Z;exact⟨k,g,v,D,by omega,V,Z,h4,h5,h6⟩
 rcases hc with hc|⟨n,hc,hn⟩
 ·obtain⟨k,g,v,D,V,Z,h4,h5,h6,h7⟩:=get hc;exact⟨k,g,v,D,V,Z,h4,h5,h6,.inl h7⟩
 ·obtain⟨k,g,v,D,V,Z,h4,h5,h6,h7⟩:=get hc;refine⟨k,g,v,D,V,Z,h4,h5,h6,.inr ⟨n,h7,?_⟩⟩;rw [hT.A',hn,oZ]
def Whole.rd(h:Whole c fs ts s t)(k:Nat):(Jh (k:Int) (md fs s).J' 0).length=if k<fs.length then 1 else 0:=Td (g:=⟨s.A',2,4,[]⟩) h.once k
def Whole.reader(h:Whole c fs ts s t){i:Nat}{f:bt}(Q:fs[i]? =some f){u:FT}(hu:ts[i]? =some u): ∃(a j:Nat) (g:bt) (w:FT),Jh (i:Int) (md fs s).J' 0=[((a:Int),(j:Int))]/\(md fs s).J'[a]? =some g/\g.u'=w.flat 0/\(f.Way=3↔g.At=2)/\(vy u.rt none\/ ∃n,vy u.rt (some n)/\g.u'[j+1]? =some (dh n (j:Int) (-1))):=by
 have hi:=(oC.1 Q).1;have hl:=h.rd i;rw [bq hi]at hl;obtain⟨x,I⟩:=List.length_eq_one_iff.1 hl;have hm:x∈Jh (i:Int) (md fs s).J' 0:=by rw [I];exact np.2 rfl
 obtain⟨a,g,j,n,g0,g1,g2,g3,g4⟩:=Rx hm;obtain⟨w,_,hT,_⟩:=h.tree g0;obtain⟨k,f',v,k1,k2,k3,k4,_,k6,k7⟩:=h.reads hT g1 g3;have hk:k=i:=by omega
 subst hk;rw [Q]at k3;cases k3;rw [hu]at k4;cases k4;refine⟨a,j,g,w,?_,g0,hT.A',k6,k7⟩;rw [I,g2,oZ]
def Whole.planS(h:Whole c fs ts s t):H6 c (md fs s) (WB ts t):=by
 have hlen:=h.len;have htl:=h.lay.len;have h29:=h.n29;refine⟨h.cat,by omega,by omega,by rw [hlen];simp [WB,htl],fun i f Q=>?_,fun i f Q=>?_⟩
 ·obtain⟨u,hu,hT,hc⟩:=h.tree Q;have k_:=h.size Q hT.A';obtain⟨hb,hK1,hK2⟩:=Gm (Ia hu) (by omega);rw [Ia hu]at hK1;cases hK1;refine⟨u.kl,u.ks,Ia hu,by rw [hT.A'];exact VL hT.W k_ fun k hk=>by have:=u.kl16 hT.W k hk;omega,hK2,?_⟩;have scan: ∀n∈f.u',n.Op=1->f.At=1/\ ∃t,0<=n.M'/\dm c.i_ n.M'=some t/\n.U'=t.b_.map (fun x=>x.Kind):=fun n hn D=>by
   rw [hT.A']at hn;obtain⟨m,hm,A,B,rfl⟩:=u.mem_flat 0 n hn;obtain⟨q1,tb,q2,q3,q4,_⟩:=hT.leaf m hm D;exact⟨q1,tb,q2,q3,q4⟩
  rcases hc with⟨_,_,hL⟩|⟨_,rfl,_⟩
  ·exact⟨hT.h_,by have:=hL.way;omega,hL.d_,hL.inr,hL.clen,scan⟩
  ·exact⟨.inr rfl,by show(1:Int)<=4/\(4:Int)<=4;omega,by show(4:Int)=1↔0<0;omega,fun x I=>(by cases I),kY _,scan⟩
 ·obtain⟨u,hu,hT,hc⟩:=h.tree Q;have k_:=h.size Q hT.A';refine⟨fun n hn h9=>?_,fun hl=>?_,fun hl=>?_⟩
  ·obtain⟨j,hj⟩:=List.mem_iff_getElem?.1 hn;obtain⟨k,g,v,D,V,Z,h4,h5,_⟩:=h.reads hT hj h9;refine⟨k,D,V,?_⟩;have hv:(ts++[t])[k]? =some v:=by rw [lT (oC.1 h4).1];exact h4
   rw [h5];refine Gm (Ia hv) ?_;have hgp:(md fs s).J'[k]? =some g:=by
    show(fs++[_])[k]? =_;rw [lT (oC.1 Z).1];exact Z
   obtain⟨v',hv',hT',_⟩:=h.tree hgp;rw [hv]at hv';cases hv';have:=h.size hgp hT'.A';omega
  ·rcases hc with⟨o_,_⟩|⟨hi,rfl,rfl⟩
   ·omega
   ·have hr:=h.rd i;rw [aZ (by omega)]at hr;exact⟨rfl,rfl,uS hr,u.ks,Gm (Ia hu) (by omega),by rw [h.side.ks];exact h.side.four⟩
  ·rcases hc with⟨o_,hf',hL⟩|⟨hi,_⟩
   ·have hut:ts[i]? =some u:=by rw [lT (by omega)]at hu;exact hu
    obtain⟨a,j,g,w,r1,r2,_,r4,_⟩:=h.reader hf' hut;exact⟨by have:=hL.way;omega,a,(j:Int),g,r1,r2,r4⟩
   ·omega
def Whole.fragT(h:Whole c fs ts s t){i:Nat}{f:bt}(Q:(md fs s).J'[i]? =some f): ∃u,Ot (md fs s) c (WB ts t) i f u:=by
 have hlen:=h.len;have htl:=h.lay.len;have h29:=h.n29;obtain⟨u,hu,hT,hc⟩:=h.tree Q;have k_:=h.size Q hT.A';refine⟨u,hT.A',Ia hu,hT.h_,hT.W,fun D=>?_,fun n hn=>⟨fun D=>?_,fun h9=>?_⟩,fun e he=>⟨fun h10=>?_,fun h8 hat=>?_⟩,k_⟩
 ·rcases hc with⟨o_,_,hL⟩|⟨_,rfl,_⟩
  ·exact hL.ly D _ ⟨fs.drop i++[⟨s.A',2,4,[]⟩],by show fs++[_]=_;rw [<-gJ,vn]⟩
  ·exact absurd D (by show¬(2:Int)=1;decide)
 ·obtain⟨_,tb,_,q3,_,q5⟩:=hT.leaf n hn D;exact⟨tb,q3,by omega⟩
 ·obtain⟨A,B,hm⟩:=u.ns_mem 0 n hn;rw [<-hT.A']at hm;obtain⟨j,hj⟩:=List.mem_iff_getElem?.1 hm;obtain⟨k,g,v,D,V,Z,h4,_⟩:=h.reads hT hj h9;have D:n.M'=(k:Int):=D;have hgp:(md fs s).J'[k]? =some g:=by
   show(fs++[_])[k]? =_;rw [lT (oC.1 Z).1];exact Z
  obtain⟨v',_,_,hc'⟩:=h.tree hgp;refine⟨g,by rw [D,bR];exact hgp,?_⟩;rcases hc' with⟨_,_,hL⟩|⟨_,rfl,_⟩
  ·have:=hL.clen;omega
  ·show 0<=1000;omega
 ·rw [hT.A']at he;obtain⟨A,B,rfl⟩:=u.ends hT.W 0 e he (.inr h10);have h10:u.rt.Op=10:=h10;rcases hc with⟨o_,hf',hL⟩|⟨_,_,rfl⟩
  ·have hut:ts[i]? =some u:=by rw [lT (by omega)]at hu;exact hu
   obtain⟨a,j,g,w,r1,r2,r3,_,r5⟩:=h.reader hf' hut;rcases r5 with r5|⟨n,r5,r6⟩
   ·obtain⟨n,hn,_⟩:=r5.1 h10;cases hn
   ·obtain⟨n',hn,q1,q2,q3⟩:=r5.1 h10;cases hn;exact⟨_,Ru r1 r2 r3 r6 rfl,q1,q2,q3⟩
  ·exact absurd (u.op_rt.trans h10) h.ten
 ·rw [hT.A']at he;obtain⟨A,B,rfl⟩:=u.ends hT.W 0 e he (.inl h8);have h8:u.rt.Op=8:=h8;rcases hc with⟨o_,hf',hL⟩|⟨_,rfl,rfl⟩
  ·have hut:ts[i]? =some u:=by rw [lT (by omega)]at hu;exact hu
   obtain⟨a,j,g,w,r1,r2,r3,_,r5⟩:=h.reader hf' hut;refine⟨hL.srt (u.op_rt.trans h8) hat,?_⟩;rcases r5 with r5|⟨n,r5,r6⟩
   ·obtain⟨n,hn,_⟩:=r5.2 h8;cases hn
   ·obtain⟨n',hn,q1,q2,q3⟩:=r5.2 h8;cases hn;exact⟨_,Ru r1 r2 r3 r6 rfl,q1,q2,q3⟩
  ·exact absurd hat (by show¬(2:Int)=1;decide)
def Whole.holds(h:Whole c fs ts s t)(hc:CB c):um (md fs s) c=some (0,0,0)/\ul (md fs s) c=some (0,0,0)/\q6 (md fs s)=some (s.j',0):=by
 have hP:=h.planS;have hlen:=h.len;have htl:=h.lay.len;refine⟨WE hc hP,Ww hc hP fun i f Q=>h.fragT Q,?_⟩;have Q:(md fs s).J'[fs.length]? =some ⟨s.A',2,4,[]⟩:=by
  show(fs++[_])[fs.length]? =_;rw [sE (eX _),pX];rfl
 have k_:=h.size Q h.side.A';have hu:(ts++[t])[fs.length]? =some t:=by rw [<-htl,sE (eX _),pX];rfl
 have hR:=Gm (Ia hu) (by omega);rw [h.side.ks]at hR;exact QM hP (by rw [hlen,Nat.add_sub_cancel];exact hR)
end
end
section
def F6(c:bo): ∃o,ra c=some o/\(o=false->c.i_.length<=10/\ ∀t∈c.i_,t.I'.length<=10/\t.b_.length<=10):=by
 have hl2: ∀(nx:Option Bool) (l:List cc),kP nx l=some true\/kP nx l=nx:=by
  intro nx l
  induction l with
  |nil=>exact .inr rfl
  |cons x l ih=>
   unfold kP;split
   ·exact .inl rfl
   ·exact ih
 have hl1: ∀l:List de,∃o,jx l=some o/\(o=false-> ∀t∈l,t.I'.length<=10/\t.b_.length<=10):=by
  intro l
  induction l with
  |nil=>exact⟨false,rfl,fun _ t Y=>by cases Y⟩
  |cons x l ih=>
   obtain⟨o,D,V⟩:=ih;unfold jx;split
   ·exact⟨true,rfl,fun h=>by cases h⟩
   ·rename_i hc;rcases hl2 (jx l) x.b_ with h|h
    ·exact⟨true,h,fun h=>by cases h⟩
    ·refine⟨o,by rw [h,D],fun ho t Y=>?_⟩;rcases iI.1 Y with rfl|Y
     ·simp at hc;omega
     ·exact V ho t Y
 unfold ra;split
 ·exact⟨true,rfl,fun h=>by cases h⟩
 ·rename_i hc;obtain⟨o,D,V⟩:=hl1 c.i_;exact⟨o,D,fun ho=>⟨by simp at hc;omega,V ho⟩⟩
def C3(c:bo)(n:ac):Bool:=if n.Op=1 then(match dm c.i_ n.M' with|some t=>decide (t.b_.map cc.Kind=n.U')|none=>false)else true
def Mt(nx:Option Bool)(e:ac): ∀(d_:List cc) (ks:List Int),ks.length+d_.length<=1000->qj nx e d_ ks=if ks++d_.map cc.Kind=e.U' then nx else some false
 |[],ks,_=>by
  unfold qj uL;rw [tW,bh,BE,yH];by_cases h:ks=e.U'
  ·rw [bq h,zM h,aZ (by simp)]
  ·rw [aZ h,zN h,bq (by simp)]
 |x::tl,ks,h=>by
  simp only [jr]at h;unfold qj;rw [cK (by simp;omega),bh,Mt nx e tl _ (by simp;omega),vi,gJ];rfl
def VG{α:Type}{xs:List α}{i:Int}(h:(xs.length:Int)<=i):dm xs i=none:=by
 obtain⟨k,rfl⟩:=Int.eq_ofNat_of_zero_le (show 0<=i by omega);rw [bR];exact E5 (by omega)
def TA{α:Type}{xs:List α}{i:Int}(h0:0<=i)(h:i<(xs.length:Int)): ∃x,dm xs i=some x/\x∈xs:=by
 obtain⟨k,rfl⟩:=Int.eq_ofNat_of_zero_le h0;refine⟨xs[k]'(by omega),?_,zW _⟩;rw [bR];exact qV _
section
variable{c:bo}
def Mu(hc: ∀t∈c.i_,t.I'.length<=10/\t.b_.length<=10): ∀ns:List ac,(∀n∈ns,n.Op=1->0<=n.M')->m4 c ns=some (ns.all (C3 c))
 |[],_=>rfl
 |n::tl,h=>by
  have ih:=Mu hc tl fun m hm=>h m (pA _ hm);have hn:=h n (pz ..);unfold m4;rw [yF];by_cases D:n.Op=1
  ·rw [aZ (by simp [D])];by_cases V:(c.i_.length:Int)<=n.M'
   ·rw [bq (by simpa using V)];have:C3 c n=false:=by unfold C3;rw [bq D,VG V]
    rw [this];rfl
   ·obtain⟨t,Y,htm⟩:=TA (xs:=c.i_) (hn D) (by omega);have:=(hc t htm).2;rw [aZ (by simpa using V),Y,bh,Mt _ _ _ _ (by simp;omega),lz,ih];have:C3 c n=decide (t.b_.map cc.Kind=n.U'):=by unfold C3;rw [bq D,Y]
    rw [this];by_cases Z:t.b_.map cc.Kind=n.U'
    ·rw [bq Z,zM Z];rfl
    ·rw [aZ Z,zN Z];rfl
  ·rw [bq (by simpa using D)];have:C3 c n=true:=by unfold C3;rw [aZ D]
   rw [this,sX];exact ih
end
def Tb{l:cQ}(hS:sC l){ob:_}{j:Int}(yn:pQ l=some (ob,j,true))(hL:H8 l ob){p:Nat}(hp:p<l.u'.length):y8 l (p:Int)=some (Aq l (p+1-zQ ob.first p) p,0):=by
 have hle:=hL.le;obtain⟨N0,Q⟩:=hL.inv.at hp;have D:=N0.pos;have V:=N0.le;have hfi:dm ob.first (p:Int)=some ((p+1-zQ ob.first p:Nat):Int):=by rw [bR,Q];congr 1;omega
 unfold y8;rw [yn];simp only [bh,s6,qD,lS];rw [aZ (by simp;omega),hfi];simp only [bh];rw [QF hS hle hp (by omega) ((l.u'.take (p+1)).drop (p+1-zQ ob.first p)) (p+1-zQ ob.first p) ko _ rfl (by simp;omega) (vc (by simp;omega)) (by simp)];rfl
def Hm{l:cQ}(c:bo)(hS:sC l){ob:_}{j:Int}(yn:pQ l=some (ob,j,true))(hL:H8 l ob): ∀(tl:List ac) (i:Nat) (pk:List (List Int)),l.u'.drop i=tl->i+tl.length=l.u'.length->pk=(List.range i).map (IB ob.j')->
  oo l tl i (⟨⟨[]⟩,l,c,pk⟩:aK)=oo l [] l.u'.length (⟨⟨[]⟩,l,c,(List.range l.u'.length).map (IB ob.j')⟩:aK)
 |[],i,pk,_,hi,hp=>by
  simp only [tZ,wV]at hi;rw [hp,hi]
 |n::tl,i,pk,hd,hi,hp=>by
  obtain⟨D,V,Z⟩:=im hd;simp only [jr]at hi;have hle:=hL.le;have hg:EX l (zQ ob.first) (IB ob.j'):=fun j hj=>DB hL.inv hle hj;obtain⟨m,F⟩:=hg i V;have hz:=F.le;have hz1:=F.pos;have hpe:=Tb hS yn hL V;have hPF:=Hs hg hle V hz;obtain⟨sz',ks',hb⟩:=Nh (Df hS (i+1-zQ ob.first i) i) (Pw hg hle V hz hz1);have hk:=(Fw (Df hS (i+1-zQ ob.first i) i) hb hPF).1;have hkk:=hb.j';rw [<-hk,y4 V,show i+1-zQ ob.first i+(i+1-(i+1-zQ ob.first i)-1)=i from by omega]at hkk
  conv=>lhs;unfold oo
  rw [hpe,bh];show((qR (Aq l (i+1-zQ ob.first i) i)).bind _)=_;rw [hkk,bh];show((nH pk [IB ob.j' i]).bind _)=_;rw [cK (by rw [hp];simp;omega),bh];exact Hm c hS yn hL tl (i+1) _ Z (by omega) (by rw [hp,List.range_succ,CO];rfl)
def MF(L:List bt):dp×Int:=if(decide (30<L.length)||L.any fun f=>decide (60<f.u'.length))=true then(⟨[]⟩,3)else(⟨L⟩,0)
def Nz: ∀(L:List bt) (i:Nat),∃r,eu sN L i=some r/\decide (0<=r)=L.any fun f=>decide (60<f.u'.length)
 |[],i=>⟨-1,rfl,rfl⟩
 |f::tl,i=>by
  unfold eu sN;rw [bh,zD];by_cases h:60<f.u'.length
  ·rw [bq (by simp;omega),zM h];exact⟨_,rfl,by simp⟩
  ·rw [aZ (by simp;omega),zN h];exact Nz tl (i+1)
def VN(L:List bt):gc L sN=some (L.any fun f=>decide (60<f.u'.length)):=by
 obtain⟨r,D,V⟩:=Nz L 0;unfold gc jZ;rw [D,bh,V]
def lu.one{c:bo}{f0 fx f1:List bt}{a:be}{ka:List Int}{hf:Int->Nat}{m:Nat}(h:lu c f0 fx f1 a ka hf m (fun t=>t.op≠10/\(a.h_=1->t.op≠8)))(Z:K3 ka)(hl:ka.length<=16): ∃fy m',lu c f0 fy (yg a f1) (BA a f1) ka hf m' (fun t=>t.op≠10):=by
 unfold yg BA;by_cases e:a.h_=2
 ·rw [bq e,bq e];exact⟨fx,m,h.mono (fun _=>rfl) fun t Y=>Y.1⟩
 ·rw [aZ e,aZ e];have D:a.h_=1:=by have:=h.ok.h_;omega
  have h' :=(h.mono (P' :=FT.nr) (fun _=>rfl) fun t Y=>⟨Y.2 D,Y.1⟩).send Z hl (way:=3) (d_:=[]) (.inr rfl) (by simp) (fun x I=>by cases I) (by simp) 0;exact⟨f1,0,h'.mono (fun _=>rfl) fun t Y=>Y.2⟩
def Pt{l:cQ}{c:bo}(hl:l.u'.length<=65)(hS:sC l)(hc: ∀t∈c.i_,t.I'.length<=10/\t.b_.length<=10):
  (∃e,e≠0/\v7 l c=some (⟨[]⟩,e))\/
  ∃fs ts s t,Whole c fs ts s t/\v7 l c=some (md fs s,0)/\qR l=some (s.j',0)/\ ∀k,cF 1 k (md fs s).J'=cn 1 k l.u':=by
 have hsc:CB c:=fun t htm=>by have:=(hc t htm).1;omega
 obtain⟨r1,⟨jj,r2⟩,ob,j,r3,r4⟩:=Mz hS;unfold v7;rw [r2,bh]
 cases hr:vp l with
 |false=>exact .inl ⟨230,by decide,by rw [bq (by rfl)];rfl⟩
 |true=>
  obtain⟨hL,hj⟩:=r4 hr;rw [hr]at r3;rw [bq rfl,aZ (by decide),yu hsc,bh]
  cases hcb:NZ c with
  |false=>exact .inl ⟨210,by decide,by rw [bq (by decide)];rfl⟩
  |true=>
   rw [bq rfl,aZ (by decide)];have hn: ∀n∈l.u',n.Op=1->0<=n.M':=fun n hn D=>((MZ hS hL n hn).2 D).1;unfold Co;rw [Mu hc l.u' hn,bh]
   cases hs:l.u'.all (C3 c)with
   |false=>exact .inl ⟨2,by decide,by rw [bq (by decide)]⟩
   |true=>
    rw [aZ (by decide)];have hle:=hL.le;have hpos:=hL.pos;have hg:EX l (zQ ob.first) (IB ob.j'):=fun j hj=>DB hL.inv hle hj;obtain⟨nl,FL⟩:=hg (l.u'.length-1) (by omega);have hzl:=FL.le;rw [Hm c hS r3 hL l.u' 0 [] rfl (by omega) rfl];obtain⟨pk,hpk⟩: ∃pk,pk=(List.range l.u'.length).map (IB ob.j'):=⟨_,rfl⟩;rw [<-hpk];obtain⟨p,hp⟩: ∃p:aK,p=⟨⟨[]⟩,l,c,pk⟩:=⟨_,rfl⟩;have hpm:p=qW p []:=by rw [hp];rfl
    have hP:ZN l c (IB ob.j') p:=by
     refine⟨by rw [hp],by rw [hp],fun j hj=>?_⟩;rw [hp];show dm pk (j:Int)=_;rw [bR,hpk,D9,List.getElem?_range hj];rfl
    have hT: ∀n∈l.u',n.Op=1->aeM c n:=by
     intro n hnm D;have:=o0.1 hs n hnm;unfold C3 at this;rw [bq D]at this
     cases I:dm c.i_ n.M' with
     |none=>rw [I]at this;cases this
     |some t=>
      rw [I]at this;obtain⟨_,V⟩:=ou I;have htm:=ud V;have hk:=OX hcb htm;exact⟨t,I,hn n hnm D,(of_decide_eq_true this).symm,(hc t htm).1,fun x I=>⟨x.toNat,by have:=hk x I;omega,by have:=hk x I;omega⟩⟩
    obtain⟨s,f2,fx,m,g1,g2,g5,g6,g7⟩:=Mi hS hle hg hP hT (l.u'.length-1) (by omega) ko (vc (by omega)) [] (by simp;omega);simp only [tZ,oZ]at g7;obtain⟨hk3,hk1⟩:=Ng hS hg (l.u'.length-1) (by omega);have hk16:=FL.len;obtain⟨fy,m',gO⟩:=(g2.mono (P' :=fun t=>t.op≠10/\(s.h_=1->t.op≠8)) (fun _=>rfl) fun t Y=>⟨Y.1,fun h=>Y.2 (.inr h)⟩).one hk3 hk16;have hk:=g2.ok.j';have hfl:=Ar s f2;obtain⟨L,hLL⟩: ∃L,L=yg s f2++[(⟨(BA s f2).A',2,4,[]⟩:bt)]:=⟨_,rfl⟩;have hLl:L.length=(yg s f2).length+1:=by rw [hLL];simp
    have e1:oo l [] l.u'.length p=some (MF L):=by
     unfold oo tw;rw [cJ (by omega) (by omega),show(l.u'.length:Int)-1=((l.u'.length-1:Nat):Int)from by omega,hpm,g1,bh];show((eC (qW p f2) s).bind _)=_;rw [yf (by omega) (by omega),bh];show((nH (yg s f2) [(⟨(BA s f2).A',2,4,[]⟩:bt)]).bind _)=_;rw [cK (by simp;omega),bh,<-hLL,VN];unfold MF;by_cases h30:30<L.length
     ·rw [aZ (by simp;omega),bh,bq rfl,bq (by simp [h30])]
     ·rw [bq (by simp;omega),bh,bh,zN h30,yG];split<;>rfl
    rw [<-hp,e1];by_cases hR:(decide (30<L.length)||L.any fun f=>decide (60<f.u'.length))=true
    ·refine .inl ⟨3,by decide,?_⟩;unfold MF;rw [bq hR]
    ·have hv:MF L=(⟨L⟩,0):=by unfold MF;rw [aZ hR]
     simp only [zR,vk,zO,not_or,not_exists,not_and]at hR;obtain⟨ts,t,D,V,Z⟩:=gO.made [] (Lay.nil c) (by omega);rw [lz]at D V;obtain⟨sz',ks',hb⟩:=Nh hS hr;obtain⟨q1,q2⟩:=Fw hS hb hg;refine .inr ⟨yg s f2,ts,BA s f2,t,⟨hcb,D,V,EA,Z,gO.once,by omega,?_⟩,?_,?_,fun k=>?_⟩
     ·rw [<-hLL];intro f Q;have:=hR.2 f Q;omega
     ·rw [hv,hLL];rfl
     ·rw [gO.j',hb.j',q1]
     ·obtain⟨new,e2,e3⟩:=gO.scans.ext;rw [lz]at e2;have e3:=e3 k;rw [q2,show l.u'.length-1+1=l.u'.length by omega,pX]at e3;have e4:xE l.u' 0 l.u'.length=l.u':=by unfold xE;simp
      rw [e4]at e3;show cF 1 k (yg s f2++[_])=_;rw [uy,e2,<-e3];show cF 1 k new+(cn 1 k (BA s f2).A'+0)=_;omega
def vl(m:List (Int×Int))(k:Int):Int:=(jC m k).getD 0
def Kf(m:List (Int×Int))(k v x:Int):vl (dC m k v) x=if k=x then v else vl m x:=by
 unfold vl;rw [Na];split<;>rfl
def DI(op k:Int)(n:ac)(l:List ac):cn op k (n::l)=(if n.Op=op/\n.M'=k then 1 else 0)+cn op k l:=rfl
def YT(op k:Int)(f:bt)(l:List bt):cF op k (f::l)=cn op k f.u'+cF op k l:=rfl
def Qs(op k:Int): ∀l:List ac,cn op k l<=l.length
 |[]=>eX _
 |n::l=>by
  have:=Qs op k l;rw [DI,jr];split<;>omega
def G1(l:cQ)(r3:dp×Int): ∀(tl:List ac) (m:List (Int×Int)) (b:Nat),(∀k,0<=vl m k/\vl m k<=(b:Int))->b+tl.length<=100000-> ∃m',lG l r3 tl m=jb l r3 r3.1.J' m' /\ ∀k,vl m' k=vl m k+(cn 1 k tl:Int)
 |[],m,b,_,_=>⟨m,rfl,fun k=>by simp [cn]⟩
 |n::tl,m,b,K,hl=>by
  rw [jr]at hl;unfold lG;by_cases D:n.Op=1
  ·have hv:=K n.M';have ew:i64.wrap (((jC m n.M').getD (0:Int))+(1:Int))=vl m n.M'+1:=by
    show i64.wrap (vl m n.M'+1)=_;rw [cJ (by omega) (by omega)]
   rw [bq (by simpa using D),ew];obtain⟨m',g1,g2⟩:=G1 l r3 tl (dC m n.M' (vl m n.M'+1)) (b+1) (fun k=>by rw [Kf];have:=K k;split<;>omega) (by omega);refine⟨m',g1,fun k=>?_⟩;rw [g2,Kf,DI];by_cases hk:n.M'=k
   ·rw [bq hk,bq ⟨D,hk⟩,hk];omega
   ·rw [aZ hk,aZ (fun h=>hk h.2)];omega
  ·rw [aZ (by simpa using D)];obtain⟨m',g1,g2⟩:=G1 l r3 tl m b K (by omega);refine⟨m',g1,fun k=>?_⟩;rw [g2,DI];rw [aZ (fun h=>D h.1)];omega
def G0(nx:List (Int×Int)->Option Bool): ∀(tl:List ac) (m:List (Int×Int)) (b:Nat),(∀k,-(b:Int)<=vl m k/\vl m k<=100000)->b+tl.length<=100000-> ∃m',lF nx tl m=nx m' /\ ∀k,vl m' k=vl m k-(cn 1 k tl:Int)
 |[],m,b,_,_=>⟨m,rfl,fun k=>by simp [cn]⟩
 |n::tl,m,b,K,hl=>by
  rw [jr]at hl;unfold lF;by_cases D:n.Op=1
  ·have hv:=K n.M';have ew:i64.wrap (((jC m n.M').getD (0:Int))-(1:Int))=vl m n.M'-1:=by
    show i64.wrap (vl m n.M'-1)=_;rw [cJ (by omega) (by omega)]
   rw [bq (by simpa using D),ew];obtain⟨m',g1,g2⟩:=G0 nx tl (dC m n.M' (vl m n.M'-1)) (b+1) (fun k=>by rw [Kf];have:=K k;split<;>omega) (by omega);refine⟨m',g1,fun k=>?_⟩;rw [g2,Kf,DI];by_cases hk:n.M'=k
   ·rw [bq hk,bq ⟨D,hk⟩,hk];omega
   ·rw [aZ hk,aZ (fun h=>hk h.2)];omega
  ·rw [aZ (by simpa using D)];obtain⟨m',g1,g2⟩:=G0 nx tl m b K (by omega);refine⟨m',g1,fun k=>?_⟩;rw [g2,DI];rw [aZ (fun h=>D h.1)];omega
def Mf(l:cQ)(r3:dp×Int): ∀(tl:List bt) (m:List (Int×Int)) (b:Nat),(∀f∈tl,f.u'.length<=60)->(∀k,-(b:Int)<=vl m k/\vl m k<=1000)->b+60*tl.length<=10000-> ∃m',jb l r3 tl m=eI l r3 m' (m'.map Prod.fst)/\ ∀k,vl m' k=vl m k-(cF 1 k tl:Int)
 |[],m,b,_,_,_=>⟨m,rfl,fun k=>by simp [cF]⟩
 |f::tl,m,b,h60,K,hl=>by
  rw [jr]at hl;have Q:=h60 f (pz ..);unfold jb;obtain⟨m1,g1,g2⟩:=G0 (jb l r3 tl) f.u' m b (fun k=>by have:=K k;omega) (by omega);obtain⟨m',g3,g4⟩:=Mf l r3 tl m1 (b+60) (fun g H=>h60 g (pA _ H)) (fun k=>by rw [g2];have:=K k;have:=Qs 1 k f.u';omega) (by omega);refine⟨m',g1.trans g3,fun k=>?_⟩;rw [g4,g2,YT];omega
def Me(r:List Int×Int): ∀(tl:List Int) (i:Nat),r.1.drop i=tl->nE r tl i=some true
 |[],i,_=>rfl
 |x::tl,i,h=>by
  obtain⟨D,V,Z⟩:=im h;unfold nE;rw [D,bh,aZ (by simp)];exact Me r tl (i+1) Z
def Ho(l:cQ)(c:bo):vt l c=some true:=by
 unfold vt;rw [Ke,bh,aZ (by decide)];obtain⟨b,D,V⟩:=Xu l.u';rw [D,bh]
 cases b with
 |true=>rfl
 |false=>
  obtain⟨hlen,hS⟩:=V rfl;obtain⟨o,o1,o2⟩:=F6 c;rw [bq (by rfl),o1,bh,bh]
  cases o with
  |true=>rfl
  |false=>
   obtain⟨_,hc⟩:=o2 rfl;have hsc:CB c:=fun t htm=>by have:=(hc t htm).1;omega
   rw [aZ (by decide)];rcases Pt hlen hS hc with⟨e,he,hp⟩|⟨fs,ts,s,t,hW,hp,hk,hcn⟩
   ·rw [hp,bh,bq (by simpa using he)];rfl
   ·obtain⟨k1,k2,k3⟩:=hW.holds hsc;rw [hp,bh,aZ (by show¬((0:Int) !=0)=true;decide)];show((um (md fs s) c).bind _)=_;rw [k1,bh,aZ (by decide)];show((ul (md fs s) c).bind _)=_;rw [k2,bh,aZ (by decide)];obtain⟨m1,q1,q2⟩:=G1 l (md fs s,0) l.u' [] 0 (fun k=>⟨Int.le_refl _,Int.le_refl _⟩) (by omega);rw [q1];have h29:=hW.n29;obtain⟨m2,w1,w2⟩:=Mf l (md fs s,0) (md fs s).J' m1 0 hW.n60 (fun k=>by rw [q2];have:=Qs 1 k l.u';show -((0:Nat):Int)<=0+_/\0+_<=_;omega) (by rw [hW.len];omega);refine w1.trans ?_;have hz: ∀k,vl m2 k=0:=fun k=>by
     rw [w2,q2,hcn k];show(0:Int)+_-_=0;omega
    have key: ∀tl:List Int,eI l (md fs s,0) m2 tl=some true:=by
     intro tl
     induction tl with
     |nil=>
      unfold eI;rw [hk,bh];show((q6 (md fs s)).bind _)=_;rw [k3,bh,aZ (by simp)];exact Me (s.j',0) s.j' 0 rfl
     |cons x tl ih=>
      unfold eI;have:(jC m2 x).getD 0=0:=hz x;rw [this,aZ (by decide)];exact ih
    exact key _
end
