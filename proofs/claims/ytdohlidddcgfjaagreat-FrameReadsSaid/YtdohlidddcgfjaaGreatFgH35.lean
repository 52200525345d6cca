import Derived.Test.YtdohlidddcgfjaaGreatFgQ1
import Derived.Test.YtdohlidddcgfjaaGreatFgQ2
import Derived.Test.YtdohlidddcgfjaaGreatFgY15
import Derived.KernelRfl
import Derived.Test.YtdohlidddcgfjaaGreatFgA0
/- cD of this claim: G1. -/
set_option linter.all false
namespace Go.Proofs.YtdohlidddcgfjaaGreat
open Go IntKind
section
def kP{n:Nat}(h:n<=900000):n<de:=Ax (EL _) (qL (by omega))
def gc(p:Int):Nat->List Int
 |0=>[]
 |k+1=>u8.wrap (p.fdiv (2^(8*k)))::gc p k
def gz(p:Int): ∀k,(gc p k).length=k
 |0=>rfl
 |k+1=>by simp [gc,gz p k]
def Dh(n:Nat): ∀k,gc (n:Int) k=Bp n k
 |0=>rfl
 |k+1=>by
  unfold gc Bp;rw [Dh n k,JB _ (Int.pow_nonneg (by omega)),show(2:Int)^(8*k)=((256^k:Nat):Int) by rw [show(256:Nat)=2^8 from rfl,<-Nat.pow_mul];norm_cast,show((n:Int)/((256^k:Nat):Int))=((n/256^k:Nat):Int)from rfl];congr 1
def Rz(p:Int): ∃n:Nat,n<18446744073709551616/\u64.wrap p=(n:Int):=⟨(u64.wrap p).toNat,by rw [EM];omega,by rw [EM];omega⟩
def X1(p:Int)(k:Nat)(hk:k<=8):p.fdiv (2^(min (Int.toNat ((8*k:Nat):Int)) u64.bits))=p.fdiv (2^(8*k)):=by
 rw [Cb,show u64.bits=64 from rfl,Aw (by omega)]
def xB(n w:Nat)(hn:n<18446744073709551616)(hw:w<=8): ∀(k j f:Nat),k+j=w->k<f->nF (w:Int) f (Bp n j) ((n/256^j:Nat):Int) (j:Int)=some (Bp n w)
 |0,j,f+1,h,_=>by
  unfold nF;rw [bB (by simp;omega),show j=w by omega]
 |k+1,j,f+1,h,hf=>by
  unfold nF;rw [bM (by rw [mS];omega)];rw [show(((n/256^j:Nat):Int).tmod 256)=((n/256^j%256:Nat):Int)from rfl,show u8.wrap ((n/256^j%256:Nat):Int)=((n/256^j%256:Nat):Int) by rw [xq];omega,
   bZ (by rw [Ip];simp;omega),bz]
  rw [show(((n/256^j:Nat):Int).tdiv 256)=((n/256^j/256:Nat):Int)from rfl];have H:n/256^j/256<=n:=z8 (Nat.div_le_self _ _) (Nat.div_le_self _ _);rw [show u64.wrap ((n/256^j/256:Nat):Int)=((n/256^j/256:Nat):Int) by
   generalize n/256^j/256=m at H;rw [EM];omega]
  rw [Nat.div_div_eq_div_mul,<-Nat.pow_succ,show i64.wrap ((j:Int)+1)=((j+1:Nat):Int) by rw [kW];omega];exact xB n w hn hw k (j+1) f (by omega) (by omega)
def s5(n w:Nat)(hn:n<18446744073709551616)(hw:w<=8):gW (n:Int) (w:Int)=some (gc (n:Int) w):=by
 have:=xB n w hn hw w 0 de (by omega) (kP (by omega));rw [Dh];simpa [Bp,gW] using this
def xF(p:Int): ∀(k f:Nat) (b:List Int),k<=8->k<f->b.length+k<=60000000000->nH p f b ((k:Int)-1)=some (b++gc p k)
 |0,f+1,b,_,_,_=>by
  unfold nH;rw [bB (by simp),gc,vW]
 |k+1,f+1,b,hk,hf,V=>by
  unfold nH;rw [show((k+1:Nat):Int)-1=(k:Int) by omega,bM (by rw [mS];omega),show i64.wrap (8*(k:Int))=((8*k:Nat):Int) by rw [kW];omega,show ge0 ((8*k:Nat):Int)=some ()from bM (by omega),bz,X1 p k (by omega),bZ (by simp;omega),bz];rw [show i64.wrap ((k:Int)-1)=(k:Int)-1 by rw [kW];omega];rw [xF p k f _ (by omega) (by omega) (by simp;omega),jR];rfl
def vO(p:Int):py p=some (gc p 8):=by
 have:=xF p 8 de [] (by omega) (kP (by omega)) (by simp);simpa [py] using this
def vB(v:aD):List Int:=u8.wrap v.Kind::(if v.Kind=1 then [u8.wrap v.N]else if v.Kind=2 then gc (u64.wrap v.N) 8 else if v.Kind=3 then u8.wrap (v.S.length:Int)::oE v.S else if v.Kind=4 then gc (u64.wrap v.N) 8++gc v.U 8 else [])
def FY(bx:Xo):(oE bx).length=bx.length:=by simp [oE]
def Pn(v:aD):(vB v).length<=17+v.S.length:=by
 unfold vB;have:=FY v.S;split
 ·simp;omega
 ·split
  ·simp [gz];omega
  ·split
   ·simp [this];omega
   ·split
    ·simp [gz]
    ·simp;omega
def AW(v:aD)(h:v.S.length<=100000):vz v=some (vB v):=by
 have hl:=FY v.S;unfold vz vB;by_cases H:v.Kind=1
 ·rw [bM (by simp [H]),bM H,bZ (by simp)];rfl
 by_cases W:v.Kind=2
 ·rw [bB (by simp [H]),bM (by simp [W]),bB H,bM W,vO,bz,bZ (by simp [gz])];rfl
 by_cases h3:v.Kind=3
 ·rw [bB (by simp [H]),bB (by simp [W]),bM (by simp [h3]),bB H,bB W,bM h3,bZ (by simp),bz,bZ (by simp [hl];omega)];rfl
 by_cases h4:v.Kind=4
 ·rw [bB (by simp [H]),bB (by simp [W]),bB (by simp [h3]),bM (by simp [h4]),bB H,bB W,bB h3,bM h4,vO,bz,bZ (by simp [gz]),bz,vO,bz,bZ (by simp [gz])];rfl
 ·rw [bB (by simp [H]),bB (by simp [W]),bB (by simp [h3]),bB (by simp [h4]),bB H,bB W,bB h3,bB h4]
end
section
def u8l(l:List Int):List Int:=l.map u8.wrap
def fB(b:Bool):Int:=if b then 1 else 0
def UN(l:List Int):List Int:=u8.wrap (l.length:Int)::u8l l
def nB(n:bw):List Int:=u8.wrap n.Tag::(if n.Tag=2 then [u8.wrap n.o_]else if n.Tag=1 then vB n.Value else [])
def eB(e:bQ):List Int:=gc (e.i'.length:Int) 2++e.i'.flatMap nB
def agB(a:f9):List Int:=u8.wrap a.Tag::eB a.Arg
def orB(o:jJ):List Int:=[u8.wrap o.o_,fB o.Desc]
def VY(n:al):List Int:=gc (u64.wrap (i64.wrap (n.J'+1))) 4
def IT(n:al):List Int:=
 if n.Op=1\/n.Op=9 then u8.wrap n.Table::UN n.A'
 else if n.Op=2 then fB n.Left::eB n.c_
 else if n.Op=3 then eB n.c_
 else if n.Op=4\/n.Op=10\/n.Op=11 then UN n.v'++u8.wrap (n.u'.length:Int)::n.u'.flatMap agB
 else if n.Op=5 then u8.wrap (n.D'.length:Int)::n.D'.flatMap eB
 else if n.Op=8 then u8.wrap (n.B'.length:Int)::(n.B'.flatMap orB++VY n)
 else []
def wY(n:al):List Int:=u8.wrap n.Op::IT n
def UP(f:dl):List Int:=[u8.wrap f.At,u8.wrap f.Way]++UN f.p_++u8.wrap (f.i'.length:Int)::f.i'.flatMap wY
def RJ(p:iG):List Int:=u8.wrap (p.L'.length:Int)::p.L'.flatMap UP
structure SmE(e:bQ):Prop where
 len:e.i'.length<=100
 str: ∀n∈e.i',n.Value.S.length<=100
structure SmD(n:al):Prop where
 g':n.A'.length<=20
 keys:n.v'.length<=20
 order:n.B'.length<=20
 items:n.D'.length<=20
 aggs:n.u'.length<=20
 cond:SmE n.c_
 item: ∀e∈n.D',SmE e
 arg: ∀a∈n.u',SmE a.Arg
structure SmF(f:dl):Prop where
 cols:f.p_.length<=40
 len:f.i'.length<=70
 n: ∀n∈f.i',SmD n
structure SmP(p:iG):Prop where
 len:p.L'.length<=40
 f: ∀f∈p.L',SmF f
def VE(e:bQ):Prop:= ∀n∈e.i',n.Tag=1->iM n.Value=true
structure VN(n:al):Prop where
 cond:n.Op=2\/n.Op=3->VE n.c_
 arg:n.Op=4\/n.Op=10\/n.Op=11-> ∀a∈n.u',VE a.Arg
 item:n.Op=5-> ∀e∈n.D',VE e
def R7{α β:Type}{f:α->List β}{k:Nat}: ∀(l:List α),(∀x∈l,(f x).length<=k)->(l.flatMap f).length<=k*l.length
 |[],_=>by simp
 |x::l,h=>by
  have H:=h x (jO ..);have W:=R7 l fun y hy=>h y (kX _ hy);rw [Fy,nY,jl,Nat.mul_succ];omega
def xP(l:List Int):(UN l).length=l.length+1:=by simp [UN,u8l]
end
section
def Wm(t:Tr): ∀bx,t.wf-> ∀n∈t.flat bx,cnt n=true:=by
 induction t with
 |lf n=>
  intro bx h m hm;rw [EN.1 hm,Mg];exact h.2.1
 |un n a ih=>
  intro bx h m hm;rcases An.1 hm with hm|hm
  ·exact ih bx h.2 m hm
  ·rw [EN.1 hm,Mg];exact h.1.2.1
 |bi n a b iha ihb=>
  intro bx h m hm;rcases An.1 hm with hm|hm
  ·rcases An.1 hm with hm|hm
   ·exact iha bx h.2.1 m hm
   ·exact ihb _ h.2.2 m hm
  ·rw [EN.1 hm,Mg];exact h.1.2.1
def Tx{ns:List bw}(h:pt ns=true): ∀n∈ns,cnt n=true:=by
 unfold pt at h;obtain⟨t,D⟩:=Rr.1 h;obtain⟨H,W,_⟩:=o6 D;rw [W];exact Wm t 0 H
def Vr{e:bQ}(h:pt e.i'=true):VE e:=fun n hn H=>by
 have:=Tx h n hn;unfold cnt mu at this;rw [bM (by simp [H]),uo]at this;simp [AZ]at this
 grind
def tN{e:bQ}{ks:List Int}(h:(iK e ks).2=0):pt e.i'=true:=by
 unfold iK at h;split at h
 ·assumption
 ·cases h
def Bd{e:bQ}{ks:List Int}(h:(iK e ks).2=0):VE e:=Vr (tN h)
def Oz{e:bQ}(h:e.i'.length=0):VE e:=fun n hn=>by
 rw [vM h]at hn;cases hn
def M0{e:bQ}{ks:List Int}(hl:e.i'.length<=30000){b:Bool}(h:lV e ks=some b)(V:b=true):VE e:=by
 rw [G7 e ks hl]at h;cases h;unfold KX at V;simp only [nw,oJ]at V;exact Bd V.1
def RH: ∀(items:List bQ) (ob:aE) {r:Bool×aE},(∀e∈items,e.i'.length<=30000)->go items ob=some r->r.1=true-> ∀e∈items,VE e
 |[],_,_,_,_,_=>fun e he=>by cases he
 |e::tl,ob,r,hl,h,hr=>by
  unfold go at h;rw [pI e _ (by have:=hl e (jO ..);omega),bz]at h;by_cases hk:(iK e ob.a_).2=0
  ·rw [bB (by simp [hk])]at h;obtain⟨l4,_,h⟩:=bs h;intro x K;rcases ll.1 K with rfl|K
   ·exact Bd hk
   ·exact RH tl _ (fun y hy=>hl y (kX _ hy)) h hr x K
  ·rw [bM (by simpa using hk)]at h;cases h;cases hr
def ac1{g:f9}{a:List Int}(h:(EC g a).2=true):VE g.Arg:=by
 unfold EC at h;split at h
 ·exact Oz (by simpa using h)
 ·split at h
  ·simp only [nw,oJ]at h;exact Bd h.1.1.1
  ·split at h
   ·simp only [nw,oJ]at h;exact Bd h.1.1
   ·simp only [nw,oJ]at h;exact Bd h.1.1
def HU{l:aE}(Y: ∀g∈l.n.u',g.Arg.i'.length<=30000)(hgl:l.n.u'.length<=5000): ∀(ks R:List Int) {r:Bool×aE},R.length+ks.length<=5000->eW l ks {l with j':=R}=some r->r.1=true-> ∀g∈l.n.u',VE g.Arg
 |[],R,r,hR,h,hr=>by
  unfold eW at h;rw [Qo l.n.u' _ R Y (by simp at hR;omega)]at h;cases h;simp only [nw]at hr;exact fun g hg' =>ac1 (mI.1 hr.2 g hg')
 |k::tl,R,r,hR,h,hr=>by
  simp only [jl]at hR;unfold eW at h;split at h
  ·cases h;cases hr
  ·obtain⟨e2,_,h⟩:=bs h;obtain⟨l9,h9,h⟩:=bs h;have h9' :hU R [e2]=some l9:=h9;rw [bZ (by simp;omega)]at h9';cases h9';exact HU Y hgl tl (R++[e2]) (by simp;omega) h hr
def Ep{nx:Nat->Bool->aE->Option (Bool×aE)}{i:Nat}{e:f9}{ok:Bool}{ob:aE}{e3:Int}{x:Bool}{r:Bool×aE}(h:jv nx i e ok ob e3 x=some r): ∃ok' ob',nx (i+1) ok' ob' =some r/\(ok' =true->ok=true/\e.Arg.i'.length=0):=by
 unfold jv at h;split at h
 ·exact⟨_,_,h,fun h=>by simp at h;exact⟨h.1.1,by rw [h.1.2];rfl⟩⟩
 ·exact⟨_,_,h,fun h=>by cases h⟩
def Er{l:aE}{nx:Nat->Bool->aE->Option (Bool×aE)}{i:Nat}{e:f9}{ok:Bool}{ob:aE}{e3:Int}{x:Bool}{r:Bool×aE}(h:hD l nx i e ok ob e3 x=some r): ∃ok' ob',nx (i+1) ok' ob' =some r/\(ok' =true->ok=true/\e.Arg.i'.length=0):=by
 unfold hD at h;split at h
 ·exact⟨_,_,h,fun h=>by simp at h;exact⟨h.1.1,by rw [h.1.2];rfl⟩⟩
 ·split at h
  ·obtain⟨e4,_,h⟩:=bs h;obtain⟨st,_,h⟩:=bs h;exact⟨_,_,h,fun h=>by simp at h;exact⟨h.1.1,by rw [h.1.2];rfl⟩⟩
  ·split at h
   ·exact Ep h
   ·exact Ep h
def Em{l:aE}: ∀(gs:List f9) (i:Nat) (ok:Bool) (ob:aE) {r:Bool×aE},cW l gs i ok ob=some r->r.1=true->ok=true/\ ∀g∈gs,g.Arg.i'.length=0
 |[],i,ok,ob,r,h,hr=>by
  unfold cW at h;cases h;exact⟨hr,fun g Y=>by cases Y⟩
 |g::gs,i,ok,ob,r,h,hr=>by
  unfold cW at h;obtain⟨e3,_,h⟩:=bs h;have: ∃ok' ob',cW l gs (i+1) ok' ob' =some r/\(ok' =true->ok=true/\g.Arg.i'.length=0):=by
   split at h
   ·exact Er h
   ·exact Er h
  obtain⟨ok',ob',H,W⟩:=this;obtain⟨h3,h4⟩:=Em gs _ _ _ H hr;obtain⟨h5,h6⟩:=W h3;refine⟨h5,fun x K=>?_⟩;rcases ll.1 K with rfl|K
  ·exact h6
  ·exact h4 x K
def Eo{l:aE}{R:List Int}: ∀(ks:List Int) (i:Nat) (ok:Bool) {r:Bool×aE},fX l R ks i ok=some r->r.1=true-> ∀g∈l.n.u',g.Arg.i'.length=0
 |[],i,ok,r,h,hr=>by
  unfold fX at h;exact(Em _ _ _ _ h hr).2
 |k::ks,i,ok,r,h,hr=>by
  unfold fX at h;obtain⟨t,_,h⟩:=bs h;exact Eo ks _ _ h hr
def acY{n:al}(hn:kq n){l:aE}(hl:l.n=n){r:Bool×aE}(h:qU n.Op l ()=some r)(hr:r.1=true):VN n:=by
 subst hl;refine⟨fun ho=>?_,fun ho=>?_,fun ho=>?_⟩
 ·rcases ho with ho|ho
  ·rw [ho]at h;have h:jo l=some r:=h;unfold jo at h;obtain⟨c,_,h⟩:=bs h;obtain⟨b,H,h⟩:=bs h;cases h;exact M0 hn.cond H hr
  ·rw [ho]at h;have h:ic l=some r:=h;unfold ic at h;obtain⟨b,H,h⟩:=bs h;cases h;exact M0 hn.cond H hr
 ·rcases ho with ho|ho|ho
  ·rw [ho]at h;have h:gn l=some r:=h;exact HU hn.args hn.aggs l.n.v' [] (by have:=hn.keys;simpa using this) h hr
  ·rw [ho]at h;have h:fW l=some r:=h;unfold fW at h;obtain⟨q,H,h⟩:=bs h;by_cases hq:q.1=true
   ·exact HU hn.args hn.aggs l.n.v' [] (by have:=hn.keys;simpa using this) H hq
   ·rw [bM (by simpa using hq)]at h;cases h;cases hr
  ·rw [ho]at h;have h:ff l=some r:=h;unfold ff at h;obtain⟨e,_,h⟩:=bs h;split at h
   ·cases h;cases hr
   ·obtain⟨c,_,h⟩:=bs h;exact fun g Y=>Oz (Eo _ _ _ h hr g Y)
 ·rw [ho]at h;have h:j0 l=some r:=h;exact RH l.n.D' _ hn.exprs h hr
def zf{l:aE}{i:Int}{ask:aE->Unit->Option (Bool×aE)}{e:al}{r:Int}: ∀(tl:List Int) (i5:Nat) (a b:List Int) {q:Bool×aE},bN l i ask e r tl i5 a b=some q->q.1=true-> ∃l0 r2,l0.n=e/\ask l0 ()=some r2/\r2.1=true
 |[],i5,a,b,q,h,hq=>by
  unfold bN at h;split at h
  ·cases h;cases hq
  ·obtain⟨r2,W,h⟩:=bs h;by_cases hr:r2.1=true
   ·exact⟨_,r2,rfl,W,hr⟩
   ·rw [bM (by simp [hr])]at h;cases h;cases hq
 |p::tl,i5,a,b,q,h,hq=>by
  unfold bN at h;obtain⟨e2,_,h⟩:=bs h;obtain⟨t1,_,h⟩:=bs h;split at h
  ·cases h;cases hq
  ·split at h
   ·exact zf tl _ _ _ h hq
   ·exact zf tl _ _ _ h hq
def Ta{l:aE}{i:Int}{ask:aE->Unit->Option (Bool×aE)}{q:Bool×aE}(h:eG l i ask=some q)(hq:q.1=true){e:al}(he:gw l.nodes i=some e): ∃l0 r2,l0.n=e/\ask l0 ()=some r2/\r2.1=true:=by
 unfold eG at h;rw [he,bz]at h;obtain⟨r,_,h⟩:=bs h;obtain⟨t,_,h⟩:=bs h;split at h
 ·cases h;cases hq
 ·obtain⟨y,_,h⟩:=bs h;split at h
  ·cases h;cases hq
  ·obtain⟨y1,_,h⟩:=bs h;exact zf _ _ _ _ h hq
def RT{ns:List al}(hs:sr ns): ∀(tl:List al) (i:Nat) (l:aE),ns.drop i=tl->Uw ns l i-> ∀{out:List (List Int)} {w:Int},gN ns ((nJ).getD []) tl i (-1) l=some (out,w,0)-> ∀n∈tl,VN n
 |[],_,_,_,_,_,_,_=>fun n hn=>by cases hn
 |e::tl,i,l,hd,hS,out,w,h=>by
  obtain⟨hidx,hi,hd'⟩:=jN hd;have hidx' :=hidx;rw [eU]at hidx;obtain⟨ok,l',g1,g2,g3⟩:=EU hS hs hidx tl;unfold gN at h;have g1' :eG l (i:Int) ((C5 ((nJ).getD []) e.Op).getD (fun _ _=>none))=some (ok,l'):=g1;rw [g1',bz]at h
  cases ok with
  |false=>
   rw [bM (by rfl)]at h;unfold lc at h;rw [bB (by simp;omega),su l' (by omega)]at h;cases h
  |true=>
   rw [bB (by simp)]at h;have hse:=hs.n e (t7 hidx);obtain⟨l0,r2,k1,k2,k3⟩:=Ta g1 rfl (by rw [hS.k.nodes];exact hidx');intro n hn;rcases ll.1 hn with rfl|hn
   ·exact acY hse k1 k2 k3
   ·exact RT hs tl (i+1) l' hd' (g2 rfl).1 h n hn
def Xu{ns:List al}(hs:sr ns){out:List (List Int)}{w:Int}(h:iP ns=some (out,w,0)): ∀n∈ns,VN n:=by
 unfold iP at h;split at h
 ·cases h
 ·exact RT hs ns 0 ⟨ns,[],[],⟨0,0,0,0,[],false,⟨[]⟩,[],[],[],[],0⟩,[],[],[]⟩ rfl ⟨⟨rfl,rfl,fun p hp=>(by cases hp),kE _,fun k hk=>(by cases hk),fun j hj=>by omega⟩,.nil,fun k hk=>by cases hk⟩ h
end
section
def O8{α:Type} [DecidableEq α]{g:List α->Nat->Option Bool}{s2:List α}{P:α->Prop}(h0: ∀i,g [] i=some true)(H: ∀e tl i,P e->g (e::tl) i=(gw s2 (i:Int)).bind fun e1=>if e=e1 then g tl (i+1)else some false): ∀(l:List α) (i:Nat),(∀e∈l,P e)->i+l.length=s2.length->g l i=some (decide (l=s2.drop i))
 |[],i,_,hl=>by
  rw [h0];simp only [yg]at hl;rw [EO (by omega)];simp
 |e::tl,i,hp,hl=>by
  simp only [jl]at hl;have hi:i<s2.length:=by omega
  rw [H e tl i (hp e (jO ..)),eU,vp hi,bz,Ce hi];by_cases h:e=s2[i]
  ·rw [bM h,O8 h0 H tl (i+1) (fun x K=>hp x (kX _ K)) (by omega),<-h];congr 1;rw [Do];exact⟨fun hh=>by rw [<-hh],fun hh=>(Dn hh).2⟩
  ·rw [bB h,yh (fun hh=>h (Dn hh).1)]
def QR{α:Type} [DecidableEq α]{g:List α->Nat->Option Bool}{s1 s2:List α}(h:s1.length=s2.length->g s1 0=some (decide (s1=s2.drop 0))):(if((s1.length:Int) !=(s2.length:Int))then some false else g s1 0)=some (decide (s1=s2)):=by
 by_cases hl:s1.length=s2.length
 ·rw [bB (by simp [hl]),h hl,yf]
 ·rw [bM (by simp;omega),yh (fun hh=>hl (by rw [hh]))]
def vn{α:Type}{p:Prop} [Decidable p](x y:α):(if(!decide p)=true then x else y)=if p then y else x:=by
 by_cases h:p<;>simp [h]
def Bx(a b:List Int):jz a b=some (decide (a=b)):=by
 unfold jz;refine QR fun hl=>O8 (P:=fun _=>True) (fun _=>rfl) (fun e tl i _=>?_) a 0 (fun _ _=>trivial) (by simpa using hl)
 conv=>lhs;unfold lF
 congr 1;funext e1;by_cases h:e=e1<;>simp [h]
def OZ(a b:List jJ):jq a b=some (decide (a=b)):=by
 unfold jq;refine QR fun hl=>O8 (P:=fun _=>True) (fun _=>rfl) (fun e tl i _=>?_) a 0 (fun _ _=>trivial) (by simpa using hl)
 conv=>lhs;unfold iL
 congr 1;funext e1;exact vn _ _
def Rg(a b:List bw):iu a b=some (decide (a=b)):=by
 unfold iu;refine QR fun hl=>O8 (P:=fun _=>True) (fun _=>rfl) (fun e tl i _=>?_) a 0 (fun _ _=>trivial) (by simpa using hl)
 conv=>lhs;unfold gI
 congr 1;funext e1;exact vn _ _
def OY(a b:List aD):fS a b=some (decide (a=b)):=by
 unfold fS;refine QR fun hl=>O8 (P:=fun _=>True) (fun _=>rfl) (fun e tl i _=>?_) a 0 (fun _ _=>trivial) (by simpa using hl)
 conv=>lhs;unfold fi
 congr 1;funext e1;exact vn _ _
def zY{α:Type} [DecidableEq α]{f:α->α->Option Bool}{e e1:α}{x y:Option Bool}(h:f e e1=some (decide (e=e1))):((f e e1).bind fun r=>if(!r)=true then y else x)=if e=e1 then x else y:=by
 rw [h,bz];exact vn _ _
def Mx{f:List aD->List aD->Option Bool}(hf: ∀x y,f x y=some (decide (x=y)))(a b:List (List aD)):dg a b f=some (decide (a=b)):=by
 unfold dg;refine QR fun hl=>O8 (P:=fun _=>True) (fun _=>rfl) (fun e tl i _=>?_) a 0 (fun _ _=>trivial) (by simpa using hl)
 conv=>lhs;unfold cP
 congr 1;funext e1;exact zY (hf e e1)
def My{f:f9->f9->Option Bool}(hf: ∀x y,f x y=some (decide (x=y)))(a b:List f9):eK a b f=some (decide (a=b)):=by
 unfold eK;refine QR fun hl=>O8 (P:=fun _=>True) (fun _=>rfl) (fun e tl i _=>?_) a 0 (fun _ _=>trivial) (by simpa using hl)
 conv=>lhs;unfold eu
 congr 1;funext e1;exact zY (hf e e1)
def Ju{f:bQ->bQ->Option Bool}(hf: ∀x y,f x y=some (decide (x=y)))(a b:List bQ):ef a b f=some (decide (a=b)):=by
 unfold ef;refine QR fun hl=>O8 (P:=fun _=>True) (fun _=>rfl) (fun e tl i _=>?_) a 0 (fun _ _=>trivial) (by simpa using hl)
 conv=>lhs;unfold dZ
 congr 1;funext e1;exact zY (hf e e1)
def Js{f:al->al->Option Bool}(hf: ∀x y,f x y=some (decide (x=y)))(a b:List al):dQ a b f=some (decide (a=b)):=by
 unfold dQ;refine QR fun hl=>O8 (P:=fun _=>True) (fun _=>rfl) (fun e tl i _=>?_) a 0 (fun _ _=>trivial) (by simpa using hl)
 conv=>lhs;unfold dF
 congr 1;funext e1;exact zY (hf e e1)
def Jt{f:dl->dl->Option Bool}(hf: ∀x y,f x y=some (decide (x=y)))(a b:List dl):ee a b f=some (decide (a=b)):=by
 unfold ee;refine QR fun hl=>O8 (P:=fun _=>True) (fun _=>rfl) (fun e tl i _=>?_) a 0 (fun _ _=>trivial) (by simpa using hl)
 conv=>lhs;unfold dY
 congr 1;funext e1;exact zY (hf e e1)
def iF{p q:Bool}{x:Option Bool}(h:x=some q):(if p=true then(x.bind fun r=>some r)else some false)=some (p&&q):=by
 subst h;cases p<;>rfl
def Bl(a b:bQ):wC a b=some (decide (a=b)):=by
 unfold wC;rw [Rg,bz];cases a;cases b;simp
def Q6(a b:f9):sX a b=some (decide (a=b)):=by
 unfold sX;rw [iF (Bl _ _),bz];cases a;cases b;simp [Bool.beq_eq_decide_eq]
def NY(a b:al):rm a b=some (decide (a=b)):=by
 unfold rm;rw [iF (Bx _ _),bz,iF (Bx _ _),bz,iF (OZ _ _),bz,iF (Bl _ _),bz,iF (My Q6 _ _),bz,iF (Ju Bl _ _),bz];cases a;cases b;congr 1;rw [tY];simp only [nw,oJ,mS,al.mk.injEq]
 grind
def Oh(a b:dl):vC rm a b=some (decide (a=b)):=by
 unfold vC;rw [iF (Bx _ _),bz,iF (Js NY _ _),bz];cases a;cases b;congr 1;rw [tY];simp only [nw,oJ,mS,dl.mk.injEq]
 grind
def NB(a b:iG):BJ a b=some (decide (a=b)):=by
 unfold BJ;rw [Jt Oh,bz];cases a;cases b;simp
def Jd(a b:di):r0 a b=some (decide (a=b)):=by
 unfold r0;rw [Mx (fun x y=>by unfold tp;rw [OY,bz]),bz];obtain⟨k,bx,q,l,⟨r,e,c⟩⟩:=a;obtain⟨k',s',q',l',⟨r',e',c'⟩⟩:=b;congr 1;rw [tY];simp only [nw,oJ,mS,di.mk.injEq,qG.mk.injEq]
 grind
def Jo(a b:cH):tq a b=some (decide (a=b)):=by
 unfold tq;rw [iF (Jd _ _),bz,iF (NB _ _),bz];cases a;cases b;congr 1;rw [tY];simp only [nw,oJ,mS,cH.mk.injEq,List.cons.injEq]
 grind
def zr(a b:bQ):uS a b=some (decide (a=b)):=by
 unfold uS;have:=QR (s1:=a.i') (s2:=b.i') (g:=sR b) fun hl=>O8 (P:=fun _=>True) (fun _=>rfl) (fun e tl i _=>by
  conv=>lhs;unfold sR
  congr 1;funext e1;exact vn _ _) a.i' 0 (fun _ _=>trivial) (by simpa using hl)
 rw [this];cases a;cases b;simp
def Gg(a b:List bQ):vd a b=some (decide (a=b)):=by
 unfold vd;refine QR fun hl=>O8 (P:=fun _=>True) (fun _=>rfl) (fun e tl i _=>?_) a 0 (fun _ _=>trivial) (by simpa using hl)
 conv=>lhs;unfold rQ
 congr 1;funext e1;exact zY (zr e e1)
def Dk(a b:List Int):oQ a b=some (decide (a=b)):=by
 unfold oQ;refine QR fun hl=>O8 (P:=fun _=>True) (fun _=>rfl) (fun e tl i _=>?_) a 0 (fun _ _=>trivial) (by simpa using hl)
 conv=>lhs;unfold qI
 congr 1;funext e1;by_cases h:e=e1<;>simp [h]
def w6{p q:Bool}{x:Option Bool}(h:x=some q):(if(!p)=true then(x.bind fun r=>some (!r))else some true)=some (p|| !q):=by
 subst h;cases p<;>rfl
def HM(a b:al)(ha:a.B'.length<=1000)(V:a.B'.length=b.B'.length): ∀(tl:List jJ) (i f:Nat),a.B'.drop i=tl->tl.length<f->lI a b f (i:Int)=some (decide (tl=b.B'.drop i)&&(decide (a.c_=b.c_)&&decide (a.D'=b.D')))
 |[],i,f+1,hd,_=>by
  have h0:a.B'.length<=i:=zc.1 hd;unfold lI;rw [bB (by simp;omega),zr,bz,iF (Gg _ _),bz,EO (by omega)];simp
 |e::tl,i,f+1,hd,hf=>by
  obtain⟨H,W,h3⟩:=jN hd;have hi:i<b.B'.length:=by omega
  unfold lI;rw [bM (by simp;omega),H,bz,eU,vp hi,bz,vn,Ce hi];by_cases h:e=b.B'[i]
  ·rw [bM h,show i64.wrap ((i:Int)+1)=((i+1:Nat):Int) by rw [gg (by omega) (by omega)];omega,HM a b ha V tl (i+1) f h3 (by simp at hf;omega),<-h];simp
  ·rw [bB h,yh (fun hh=>h (Dn hh).1)];simp
def HN(a b:al)(ha:a.u'.length<=1000)(ho:a.B'.length<=1000)(V:a.u'.length=b.u'.length)(hbo:a.B'.length=b.B'.length): ∀(tl:List f9) (i f:Nat),a.u'.drop i=tl->tl.length<f->lJ a b f (i:Int)=some (decide (tl=b.u'.drop i)&&(decide (a.B'=b.B')&&(decide (a.c_=b.c_)&&decide (a.D'=b.D'))))
 |[],i,f+1,hd,_=>by
  have h0:a.u'.length<=i:=zc.1 hd;unfold lJ;rw [bB (by simp;omega)];have:=HM a b ho hbo a.B' 0 de rfl (kP (by omega));rw [yf]at this;rw [EO (show b.u'.length<=i by omega)];simpa using this
 |e::tl,i,f+1,hd,hf=>by
  obtain⟨H,W,h3⟩:=jN hd;have hi:i<b.u'.length:=by omega
  unfold lJ;rw [bM (by simp;omega),H,bz,eU,vp hi,bz,w6 (zr _ _),bz,Ce hi];have K:((e.Tag !=b.u'[i].Tag)|| !decide (e.Arg=b.u'[i].Arg))= !decide (e=b.u'[i]):=by
   generalize b.u'[i]=y;cases e;cases y;rw [tY];simp
  rw [K,vn];by_cases h:e=b.u'[i]
  ·rw [bM h,show i64.wrap ((i:Int)+1)=((i+1:Nat):Int) by rw [gg (by omega) (by omega)];omega,HN a b ha ho V hbo tl (i+1) f h3 (by simp at hf;omega),<-h];simp
  ·rw [bB h,yh (fun hh=>h (Dn hh).1)];simp
def Q9(a b:al)(ha:a.u'.length<=1000)(ho:a.B'.length<=1000):ul a b=some (decide (a=b)):=by
 unfold ul;by_cases hc:((((((a.Op !=b.Op)||(a.A !=b.A))||(a.B !=b.B))||(a.Table !=b.Table))||(a.Left !=b.Left))||(a.J' !=b.J'))=true
 ·rw [bM hc,yh];rintro rfl;simp at hc
 ·rw [bB hc,w6 (Dk _ _),bz,w6 (Dk _ _),bz];by_cases hd:((((a.u'.length:Int) !=(b.u'.length:Int))||((a.B'.length:Int) !=(b.B'.length:Int))|| !decide (a.A'=b.A'))|| !decide (a.v'=b.v'))=true
  ·rw [bM hd,yh];rintro rfl;simp at hd
  ·rw [bB hd];simp at hc hd;obtain⟨⟨⟨d1,d2⟩,d3⟩,d4⟩:=hd;have:=HN a b ha ho (by omega) (by omega) a.u' 0 de rfl (kP (by omega));rw [yf]at this;rw [show((0:Int))=((0:Nat):Int)from rfl,this];congr 1;rw [tY];simp only [nw,mS];cases a;cases b;simp only [al.mk.injEq]at*
   grind
def SaN(n:al):Prop:=n.u'.length<=1000/\n.B'.length<=1000
def EE(a b:fx)(hl:a.i'.length<=1000)(hs: ∀n∈a.i',SaN n)(V:a.i'.length=b.i'.length): ∀(tl:List al) (i f:Nat),a.i'.drop i=tl->tl.length<f->qf a b f (i:Int)=some (decide (tl=b.i'.drop i))
 |[],i,f+1,hd,_=>by
  have h0:a.i'.length<=i:=zc.1 hd;unfold qf;rw [bB (by simp;omega),EO (by omega)];simp
 |e::tl,i,f+1,hd,hf=>by
  obtain⟨H,W,h3⟩:=jN hd;have hi:i<b.i'.length:=by omega
  have he:=hs e (by rw [eU]at H;exact t7 H);obtain⟨he1,he2⟩:=he;unfold qf;rw [bM (by simp;omega),H,bz,eU,vp hi,bz,Q9 e _ (by omega) (by omega),bz,vn,Ce hi];by_cases h:e=b.i'[i]
  ·rw [bM h,show i64.wrap ((i:Int)+1)=((i+1:Nat):Int) by rw [gg (by omega) (by omega)];omega,EE a b hl hs V tl (i+1) f h3 (by simp at hf;omega),<-h];simp
  ·rw [bB h,yh (fun hh=>h (Dn hh).1)]
def Uu(a b:List al)(hl:a.length<=1000)(hs: ∀n∈a,SaN n):zq ⟨a⟩ ⟨b⟩=some (decide (a=b)):=by
 unfold zq;by_cases h:a.length=b.length
 ·rw [bB (by simp [h])];have:=EE ⟨a⟩ ⟨b⟩ hl hs h a 0 de rfl (kP (by omega));rw [yf]at this;exact this
 ·rw [bM (by simp;omega),yh (fun hh=>h (by rw [hh]))]
def SaF(f:dl):Prop:=f.i'.length<=1000/\ ∀n∈f.i',SaN n
def SaP(p:iG):Prop:= ∀f∈p.L',SaF f
def SmP.sa{p:iG}(h:SmP p):SaP p:=fun f hf=>⟨by have:=(h.f f hf).len;omega,fun n hn=>⟨by have:=((h.f f hf).n n hn).aggs;omega,by have:=((h.f f hf).n n hn).order;omega⟩⟩
def Lk(a b:iG)(hs:SaP a):zp a b=some (decide (a=b)):=by
 unfold zp;have:=QR (s1:=a.L') (s2:=b.L') (g:=sQ b) fun hl=>O8 (P:=SaF) (fun _=>rfl) (fun e tl i he=>by
  conv=>lhs;unfold sQ
  congr 1;funext e1;rw [w6 (Dk _ _),bz,w6 (Uu _ _ he.1 he.2),bz];have K:((((e.At !=e1.At)||(e.Way !=e1.Way))|| !decide (e.p_=e1.p_))|| !decide (e.i'=e1.i'))= !decide (e=e1):=by
   cases e;cases e1;rw [tY];simp;grind
  rw [K];exact vn _ _) a.L' 0 hs (by simpa using hl)
 rw [this];cases a;cases b;simp
def Mj(a b:List aD):vh a b=some (decide (a=b)):=by
 unfold vh;refine QR fun hl=>O8 (P:=fun _=>True) (fun _=>rfl) (fun e tl i _=>?_) a 0 (fun _ _=>trivial) (by simpa using hl)
 conv=>lhs;unfold rR
 congr 1;funext e1;exact vn _ _
def Uv(a b:List (List aD)):zu a b=some (decide (a=b)):=by
 unfold zu;refine QR fun hl=>O8 (P:=fun _=>True) (fun _=>rfl) (fun e tl i _=>?_) a 0 (fun _ _=>trivial) (by simpa using hl)
 conv=>lhs;unfold vg
 congr 1;funext e1;exact zY (Mj e e1)
def Mk(a b:di):rO a b=some (decide (a=b)):=by
 unfold rO;rw [iF (Uv _ _),bz];by_cases hc:((((a.Kind !=b.Kind)||(a.g_ !=b.g_))||(a.Seq !=b.Seq))||(a.J' !=b.J'))=true
 ·rw [bM hc,yh];rintro rfl;simp at hc
 ·rw [bB hc];simp at hc;obtain⟨k,bx,q,l,⟨r,e,c⟩⟩:=a;obtain⟨k',s',q',l',⟨r',e',c'⟩⟩:=b;congr 1;rw [tY];simp only [nw,oJ,mS,di.mk.injEq,qG.mk.injEq]at*
  grind
def wj(a b:cH)(hs:SaP a.b_):kN a b=some (decide (a=b)):=by
 unfold kN;rw [Mk,bz,iF (Lk _ _ hs),bz];by_cases hc:(((((((a.Kind !=b.Kind)||(a.f_ !=b.f_))||(a.To !=b.To))||(a.P' !=b.P'))||(a.e_ !=b.e_))||(a.U' !=b.U'))||(a.G_ !=b.G_))=true
 ·rw [bM hc,yh];rintro rfl;simp at hc
 ·rw [bB hc];simp at hc;cases a;cases b;congr 1;rw [tY];simp only [nw,mS,cH.mk.injEq]at*
  grind
def yk(a b:cH)(hs:SmP a.b_):kN a b=some (decide (a=b)):=wj a b hs.sa
end
section
def vE{i:Nat}(h:i<=1000000):i64.wrap ((i:Int)+1)=((i+1:Nat):Int):=by rw [kW];omega
def Cy: ∀(l out:List Int),out.length+l.length<=60000000000->mK l out=some (out++u8l l)
 |[],out,_=>by unfold mK;simp [u8l]
 |x::l,out,h=>by
  simp only [jl]at h;unfold mK;rw [bZ (by simp;omega),bz,Cy l _ (by simp;omega),jR];rfl
def AR(l:List Int)(h:l.length<=1000):pY l=some (UN l):=by
 unfold pY;rw [Cy l _ (by simp;omega)];rfl
def afG{n:Nat}(h:n<=1000000):u64.wrap (n:Int)=(n:Int):=by rw [EM];omega
def Gv(b:Bool):uQ b=some (fB b):=by cases b<;>rfl
def roB(r:List aD):List Int:=u8.wrap (r.length:Int)::r.flatMap vB
structure SmR(l:List (List aD)):Prop where
 len:l.length<=10
 r: ∀r∈l,r.length<=20/\ ∀v∈r,v.S.length<=100
def Vp(r:List aD):List Int×Int:=if 16<r.length then([],3)else if r.all iM then(roB r,0)else([],120)
def Hv: ∀(l:List aD) (b:List Int),(∀v∈l,v.S.length<=100)->b.length+117*l.length<=50000000000->rU l b=some (if l.all iM then(b++l.flatMap vB,0)else([],120))
 |[],b,_,_=>by unfold rU;simp
 |v::l,b,hs,h=>by
  have hv:=hs v (jO ..);have hvl:=Pn v;simp only [jl,Nat.mul_succ]at h;unfold rU;rw [um,bz];by_cases hr:iM v=true
  ·rw [bB (by simp [hr]),AW v (by omega),bz,bZ (by omega),bz,Hv l _ (fun x K=>hs x (kX _ K)) (by simp;omega)];simp [hr]
  ·rw [bM (by simp [hr])];simp [hr]
def Nt(r:List aD)(h:r.length<=20/\ ∀v∈r,v.S.length<=100):BE r=some (Vp r):=by
 unfold BE Vp;by_cases hl:16<r.length
 ·rw [bM (by simp;omega),bM hl]
 ·rw [bB (by simp;omega),bB hl,Hv r _ h.2 (by simp;omega)];cases r.all iM<;>rfl
def RA(r:List aD)(h:r.length<=20/\ ∀v∈r,v.S.length<=100):(Vp r).1.length<=2341:=by
 have H:=R7 (f:=vB) (k:=117) r fun v hv=>by have:=Pn v;have:=h.2 v hv;omega
 have:=h.1;unfold Vp;split
 ·simp
 ·split
  ·simp only [roB,jl];omega
  ·simp
def XE:List (List aD)->Nat->List Int->List Int×Int×Int
 |[],_,b=>(b,0,0)
 |r::l,i,b=>if(Vp r).2=0 then XE l (i+1) (b++(Vp r).1)else([],i,(Vp r).2)
def FI: ∀(l:List (List aD)) (i:Nat) (b:List Int),(∀r∈l,r.length<=20/\ ∀v∈r,v.S.length<=100)->b.length+2341*l.length<=50000000000->qj l i b=some (XE l i b)
 |[],i,b,_,_=>by unfold qj;rfl
 |r::l,i,b,hs,h=>by
  have hr:=hs r (jO ..);have hrl:=RA r hr;simp only [jl,Nat.mul_succ]at h;unfold qj;rw [Nt r hr,bz];unfold XE;by_cases h0:(Vp r).2=0
  ·rw [bB (by simp [h0]),bM h0,bZ (by omega),bz,FI l (i+1) _ (fun x K=>hs x (kX _ K)) (by simp;omega)]
  ·rw [bM (by simpa using h0),bB h0]
def S6{n:Nat}(h:n<=400):[u8.wrap (i64.wrap ((n:Int).tdiv 256)),u8.wrap ((n:Int).tmod 256)]=gc (n:Int) 2:=by
 have H:u8.wrap (i64.wrap ((n/256:Nat):Int))=((n/256^1%256:Nat):Int):=by rw [xq,kW,Nat.pow_one];omega
 have W:u8.wrap ((n%256:Nat):Int)=((n/256^0%256:Nat):Int):=by rw [xq,Nat.pow_zero,Nat.div_one];omega
 rw [Dh,show((n:Int).tdiv 256)=((n/256:Nat):Int)from rfl,show((n:Int).tmod 256)=((n%256:Nat):Int)from rfl,H,W];rfl
def lsB(l:List (List aD)):List Int×Int×Int:=XE l 0 (gc (l.length:Int) 2)
def Ll(l:List (List aD))(hs:SmR l):zw l=some (lsB l):=by
 have:=hs.len;unfold zw;rw [bB (by simp;omega),S6 (by omega),FI l 0 _ hs.r (by simp [gz];omega)];rfl
def RU: ∀(l:List (List aD)) (i:Nat) (b:List Int),(∀r∈l,r.length<=20/\ ∀v∈r,v.S.length<=100)->(XE l i b).1.length<=b.length+2341*l.length
 |[],i,b,_=>by simp [XE]
 |r::l,i,b,hs=>by
  have hrl:=RA r (hs r (jO ..));unfold XE;split
  ·have:=RU l (i+1) (b++(Vp r).1) fun x K=>hs x (kX _ K);rw [nY]at this;simp only [jl,Nat.mul_succ];omega
  ·simp
def Yp(l:List (List aD))(hs:SmR l):(lsB l).1.length<=30000:=by
 have:=RU l 0 (gc (l.length:Int) 2) hs.r;have:=hs.len;rw [gz]at*;unfold lsB;omega
def Af(n:Nat):Nat->List Int
 |0=>[]
 |k+1=>((n%256:Nat):Int)::Af (n/256) k
def Le: ∀(k n:Nat) (out:List Int),out.length+k<=60000000000->pW k out (n:Int)=some (out++Af n k)
 |0,n,out,_=>by unfold pW;simp [Af]
 |k+1,n,out,h=>by
  unfold pW;rw [show u8.wrap (n:Int)=((n%256:Nat):Int) by rw [xq];omega,bZ (by simp;omega),bz,show((n:Int).fdiv (2^(min (Int.toNat (8:Int)) u32.bits)))=((n/256:Nat):Int) by
   show(n:Int).fdiv 256=_;rw [JB _ (by omega)];omega,Le k (n/256) _ (by simp;omega),jR]
  rfl
def Nn(b:List Int)(V:b.length<=50000000000): ∀(k n:Nat) (last:List Int),n<4294967296->last.length+k<=1000->qk b k last (n:Int)=some (b++(last++Af n k))
 |0,n,last,_,h=>by
  unfold qk zy;rw [bZ (by simp;omega),bz,bZ (by simp at h ⊢;omega),bz,bz];simp [Af]
 |k+1,n,last,hn,h=>by
  unfold qk;rw [show((n:Int).tmod 256)=((n%256:Nat):Int)from rfl,show u8.wrap ((n%256:Nat):Int)=((n%256:Nat):Int) by rw [xq];omega,bZ (by simp;omega),bz,show((n:Int).tdiv 256)=((n/256:Nat):Int)from rfl,show u32.wrap ((n/256:Nat):Int)=((n/256:Nat):Int) by rw [GP];omega,Nn b V k (n/256) _ (by omega) (by simp;omega),jR];rfl
def PG(b:List Int)(V:qV b)(hl:b.length<=50000000000): ∃n:Nat,n<4294967296/\pn b=some (b++Af n 4)/\jZ b=some (b++Af n 4):=by
 obtain⟨n,hn,H,W⟩:=Te b V;refine⟨n,hn,?_,?_⟩
 ·unfold pn ph;rw [H,bz,bZ (by simp;omega),bz,bz,pM,Le 4 n b (by omega)]
 ·unfold jZ;rw [W,bz,Nn b hl 4 n [] hn (by simp)];rfl
def Qg(ns:List al):Bool:=match iP ns with
 |some r=>r.2.2==0
 |none=>false
def Gp(c:Int):Bool:=decide (c<0)||decide (16<=c)
def Be(f:dl):Bool:=Qg f.i'&&((f.At==1)||(f.At==2))&&((decide (1<=f.Way)&&decide (f.Way<=4))&&decide ((f.p_.length:Int)<=16)&& !(f.p_.any Gp))
def Bb(p:iG):Bool:=(decide ((1:Int)<=(p.L'.length:Int))&&decide ((p.L'.length:Int)<=30))&&p.L'.all Be
def EA{p q:Bool}{x:Option Bool}(h:x=some q):(if p=true then(x.bind fun r=>some (!r))else some false)=some (p&& !q):=by
 subst h;cases p<;>rfl
def Kh(p:iG): ∀l:List dl,(∀f∈l,∃r,iP f.i'=some r)->qq p l=some ((decide ((1:Int)<=(p.L'.length:Int))&&decide ((p.L'.length:Int)<=30))&&l.all Be)
 |[],_=>by unfold qq;simp
 |f::l,hs=>by
  obtain⟨⟨out,w,e⟩,H⟩:=hs f (jO ..);have hk:Qg f.i'=(e==0):=by unfold Qg;rw [H]
  unfold qq;rw [H,bz,ml (f:=uv) (g:=Gp) (fun _=>rfl)];have D:=EA (p:=((decide ((1:Int)<=f.Way))&&(decide (f.Way<=(4:Int))))&&(decide ((f.p_.length:Int)<=(16:Int)))) (rfl:some (f.p_.any Gp)=some (f.p_.any Gp));rw [D,bz,Kh p l fun x K=>hs x (kX _ K)];have K:(((e !=(0:Int))||(!((f.At==(1:Int))||(f.At==(2:Int)))))||(!((((decide ((1:Int)<=f.Way))&&(decide (f.Way<=(4:Int))))&&(decide ((f.p_.length:Int)<=(16:Int))))&& !(f.p_.any Gp))))= !(Be f):=by
   unfold Be;rw [hk];simp only [bne,Bool.not_and,Bool.not_not]
  show(if _ then _ else _)=_;rw [K,Dv];cases Be f<;>simp
end
section
structure SmM(m:cH):Prop where
 p:SmP m.b_
 r:SmR m.C'.Q'.Rows
def BB(l:List (List aD)):Bool:=(decide ((0:Int)<(l.length:Int))&&decide ((l.length:Int)<=4))&&l.all oM
def Di(b:qG)(seq:Int):Bool:=
 if(decide (seq<1)||decide (1099511627776<seq))=true then false
 else if b.End then((b.Rows.length:Int)==0)&&(b.s_==u64.wrap (seq-1))else(b.s_==0)&&BB b.Rows
def pz(p:di):Bool:=(decide (1<=p.g_)&&decide (p.g_<=2147483647))&&
  (if p.Kind=1 then(p.J'==0)&&Di p.Q' p.Seq
   else if p.Kind=2 then(((((((p.Q'.Rows.length:Int)==0)&&(!p.Q'.End))&&(p.Q'.s_==0))&&decide (1<=p.Seq))&&decide (p.Seq<=1099511627777))&&decide (u64.wrap (p.Seq-1)<=p.J'))&&decide (p.J'<=1099511627776)
   else false)
def F2{f:List aD->Option Bool}{g:List aD->Bool}(hf: ∀v,f v=some (g v)): ∀(l:List (List aD)) (i:Nat),∃r:Int,fL f l i=some r/\decide (0<=r)=l.any g
 |[],i=>⟨-1,rfl,rfl⟩
 |x::l,i=>by
  unfold fL;rw [hf,bz,List.any_cons]
  cases h:g x with
  |true=>rw [bM rfl];exact⟨_,rfl,by simp⟩
  |false=>rw [bB (by simp),ta];exact F2 hf l (i+1)
def IN{f:List aD->Option Bool}{g:List aD->Bool}(hf: ∀v,f v=some (g v))(l:List (List aD)):gJ l f=some (l.any g):=by
 obtain⟨r,H,W⟩:=F2 hf l 0;unfold gJ jS;rw [H,bz,W]
def N3(l:List (List aD)):BV l=some (BB l):=by
 unfold BV BB;rw [EA (IN (g:=fun r=> !oM r) (fun v=>by
  unfold A9;rw [Lh,bz];cases oM v<;>rfl) l),bz]
 congr 2;rw [<-List.all_eq_not_any_not]
def yG(l:List (List aD)): ∀tl:List (List aD),qc l tl=some ((decide ((1:Int)<=(l.length:Int))&&decide ((l.length:Int)<=4))&&tl.all oM)
 |[]=>by unfold qc;simp
 |r::tl=>by
  unfold qc;rw [HA,bz,yG l tl,Dv];cases oM r<;>simp
def Lj(l:List (List aD)):zm l=some (BB l):=by
 unfold zm BB;rw [yG];congr 3
def LE(b:qG)(seq:Int):zF b seq=some (Di b seq):=by
 unfold zF Di;rw [iF (N3 _),bz];split
 ·rfl
 ·split<;>rfl
def I5(b:qG)(seq:Int):xC b seq=some (Di b seq):=by
 unfold xC Di;rw [iF (Lj _),bz];split
 ·rfl
 ·split<;>rfl
def Hx(p:di):wk p=some (pz p):=by
 unfold wk yl pz;rw [bz,iF (I5 _ _),bz]
 cases (decide (1<=p.g_)&&decide (p.g_<=2147483647))with
 |false=>rfl
 |true=>
  rw [bB (by simp),o4];by_cases H:p.Kind=1
  ·rw [bM (by simp [H]),bM H]
  ·rw [bB (by simpa using H),bB H];by_cases W:p.Kind=2
   ·rw [bM (by simp [W]),bM W]
   ·rw [bB (by simpa using W),bB W]
def Ji(b:qG):BU b ⟨[],false,0⟩=some ((((b.Rows.length:Int)==0)&&(!b.End))&&(b.s_==0)):=by
 unfold BU;rw [iF (Nq _ _),bz];congr 1;rw [tY];simp
 grind
def Wa(b:Bool):(if(!b)=true then some (321:Int)else some 0)=some (if b then 0 else 321):=by cases b<;>rfl
def Jv(p:di):rY p=some (if pz p then 0 else 321):=by
 unfold rY zE pz;rw [bz,iF (LE _ _),bz,iF (Ji _),bz,Wa,Wa];by_cases H:p.Kind=1
 ·rw [bM (by simp [H]),bM H,za]
 ·rw [bB (by simpa using H),bB H];by_cases W:p.Kind=2
  ·rw [bM (by simp [W]),bM W];congr 2;rw [tY];simp;grind
  ·rw [bB (by simpa using W),bB W,Bool.and_false];rfl
abbrev zP:di:=⟨0,0,0,0,⟨[],false,0⟩⟩
def NZ(n:Int):Bool:=decide (0<=n)&&decide (n<=8)
def Wb(m:cH):Bool:=((NZ m.f_&&NZ m.To)&&decide (1<=m.P'))&&decide (m.P'<=12)
def q6(m:cH):Bool:=Wb m&&
  (if m.Kind=1 then((decide (1<=m.U')&&decide (m.U'<=8))&&Bb m.b_)&&decide (m.e_=0/\m.C'=zP/\m.G_=0)
   else if m.Kind=2\/m.Kind=6\/m.Kind=7 then decide (m.e_=0/\m.U'=0/\m.b_=⟨[]⟩/\m.C'=zP/\m.G_=0)
   else if m.Kind=3\/m.Kind=4 then(((decide (0<=m.e_)&&decide (m.e_<30))&&(m.C'.Kind==(if m.Kind=3 then 1 else 2)))&&pz m.C')&&decide (m.U'=0/\m.b_=⟨[]⟩/\m.G_=0)
   else if m.Kind=5 then((m.G_==140)||(m.G_==300))&&decide (m.e_=0/\m.U'=0/\m.b_=⟨[]⟩/\m.C'=zP)
   else false)
def Pl(m:cH):Bool:=
 if m.Kind=1 then decide (m.e_=0/\m.C'=zP/\m.G_=0)
 else if m.Kind=3\/m.Kind=4 then decide (m.U'=0/\m.b_=⟨[]⟩/\m.G_=0)
 else if m.Kind=5 then decide (m.e_=0/\m.U'=0/\m.b_=⟨[]⟩/\m.C'=zP)
 else decide (m.e_=0/\m.U'=0/\m.b_=⟨[]⟩/\m.C'=zP/\m.G_=0)
def Jl(m:cH):xT m=some (Pl m):=by
 unfold xT ut Pl;simp only [Jo,bz,cH.mk.injEq];by_cases H:m.Kind=1
 ·rw [bM (by simp [H]),bM H];congr 1;rw [Do];simp
 rw [bB (by simpa using H),bB H];by_cases h3:m.Kind=3
 ·rw [bM (by simp [h3]),bM (by simp [h3]),bM (.inl h3)];congr 1;rw [Do];simp
 rw [bB (by simpa using h3)];by_cases h4:m.Kind=4
 ·rw [bM (by simp [h4]),bM (.inr h4)];congr 1;rw [Do];simp
 rw [bB (by simpa using h4),bB (show¬(m.Kind=3\/m.Kind=4) by omega)];by_cases h5:m.Kind=5
 ·rw [bM (by simp [h5]),bM h5];congr 1;rw [Do];simp
 rw [bB (by simpa using h5),bB h5];congr 1;rw [Do];simp
def Me(m:cH):Bool:=
 if m.Kind=1 then(decide (1<=m.U')&&decide (m.U'<=8))&&Bb m.b_
 else if m.Kind=2\/m.Kind=6\/m.Kind=7 then true
 else if m.Kind=3\/m.Kind=4 then((decide (0<=m.e_)&&decide (m.e_<30))&&(m.C'.Kind==(if m.Kind=3 then 1 else 2)))&&pz m.C'
 else if m.Kind=5 then(m.G_==140)||(m.G_==300)
 else false
def FT(m:cH)(k:Int):j7 m k=some (((decide (0<=m.e_)&&decide (m.e_<30))&&(m.C'.Kind==k))&&pz m.C'):=by
 unfold j7;rw [Jv];have: ∀b c:Bool,((if b=true then((some (if c=true then(0:Int)else 321)).bind fun r=>some (r==(0:Int)))else some false).bind fun t=>some t)=some (b&&c):=by decide
 exact this _ _
def HW(m:cH)(hl:w8 m.b_=some (Bb m.b_)):wp m=some (Me m):=by
 unfold wp pS Me;rw [iF hl,bz,FT,FT,bz,bz];by_cases H:m.Kind=1
 ·rw [bM (by simp [H]),bM H]
 rw [bB (by simpa using H),bB H];by_cases W:m.Kind=2
 ·rw [bM (by simp [W]),bM (by simp [W]),bM (.inl W)]
 rw [bB (by simpa using W)];by_cases h6:m.Kind=6
 ·rw [bM (by simp [h6]),bM (by simp [h6]),bM (.inr (.inl h6))]
 rw [bB (by simpa using h6)];by_cases h7:m.Kind=7
 ·rw [bM (by simp [h7]),bM (.inr (.inr h7))]
 rw [bB (by simpa using h7),bB (show¬(m.Kind=2\/m.Kind=6\/m.Kind=7) by omega)];by_cases h3:m.Kind=3
 ·rw [bM (by simp [h3]),bM (show m.Kind=3\/m.Kind=4 from .inl h3),bM h3]
 rw [bB (by simpa using h3)];by_cases h4:m.Kind=4
 ·rw [bM (by simp [h4]),bM (show m.Kind=3\/m.Kind=4 from .inr h4),bB h3]
 rw [bB (by simpa using h4),bB (show¬(m.Kind=3\/m.Kind=4) by omega)];by_cases h5:m.Kind=5
 ·rw [bM (by simp [h5]),bM h5]
 ·rw [bB (by simpa using h5),bB h5]
def Jm(m:cH)(hl:w8 m.b_=some (Bb m.b_)):pc m=some (q6 m):=by
 unfold pc;rw [show qp m.f_=some (NZ m.f_)from rfl,bz,iF (show qp m.To=some (NZ m.To)from rfl),bz,iF (Jl m),bz,iF (HW m hl),bz];congr 1;unfold q6 Pl Me Wb;rw [za];congr 1;repeat' split
 all_goals first|rfl|(exfalso;omega)|exact Bool.and_comm _ _|(simp;done)
def Yd(m:cH):((((((decide (m.f_<(0:Int)))||(decide ((8:Int)<m.f_)))||(decide (m.To<(0:Int))))||(decide ((8:Int)<m.To)))||(decide (m.P'<(1:Int))))||(decide ((12:Int)<m.P')))= !(Wb m):=by
 unfold Wb NZ;rw [tY];simp;omega
def GV:SmP ⟨[]⟩:=⟨by simp,fun f hf=>by cases hf⟩
def I4(m:cH)(hL:wV m.b_=some (Bb m.b_))(hS:SaP m.b_):q9 m=some (q6 m):=by
 unfold q9;rw [Yd]
 cases hh:Wb m with
 |false=>rw [bM (show(!false)=true from rfl)];unfold q6;rw [hh];rfl
 |true=>
  rw [bB (by simp)];unfold q6;rw [hh,o4];by_cases H:m.Kind=1
  ·rw [bM (by simp [H]),bM H,w6 hL,bz,wj _ _ (by exact hS),bz];have e1:((decide (m.U'<(1:Int)))||(decide ((8:Int)<m.U')))= !((decide (1<=m.U')&&decide (m.U'<=8))):=by rw [tY];simp<;>omega
   rw [e1];cases (decide (1<=m.U')&&decide (m.U'<=8))<;>cases Bb m.b_<;>simp;cases m;simp;grind
  rw [bB (by simpa using H),bB H];have hk1:m.Kind=2\/m.Kind=6\/m.Kind=7->m6 m true=some (decide (m.e_=0/\m.U'=0/\m.b_=⟨[]⟩/\m.C'=zP/\m.G_=0)):=fun _=>by
   unfold m6;rw [bM rfl,yk _ _ (by exact GV),bz];congr 1;rw [Do];cases m;simp;grind
  by_cases W:m.Kind=2
  ·rw [bM (by simp [W]),show(m.Kind==(2:Int))=true by simp [W],hk1 (.inl W),bM (.inl W)]
  rw [bB (by simpa using W)];by_cases h6:m.Kind=6
  ·rw [bM (by simp [h6]),show(m.Kind==(6:Int))=true by simp [h6],hk1 (.inr (.inl h6)),bM (.inr (.inl h6))]
  rw [bB (by simpa using h6)];by_cases h7:m.Kind=7
  ·rw [show(m.Kind==(7:Int))=true by simp [h7],hk1 (.inr (.inr h7)),bM (.inr (.inr h7))]
  rw [show(m.Kind==(7:Int))=false by simp [h7],bB (show¬(m.Kind=2\/m.Kind=6\/m.Kind=7) by omega)];unfold m6;rw [bB (by simp)];have hk3: ∀k:Int,q8 m k=some ((((decide (0<=m.e_)&&decide (m.e_<30))&&(m.C'.Kind==k))&&pz m.C')&&decide (m.U'=0/\m.b_=⟨[]⟩/\m.G_=0)):=fun k=>by
   unfold q8;rw [w6 (Hx _),bz,yk _ _ (by exact GV),bz];have e1:(((decide (m.e_<(0:Int)))||(decide ((29:Int)<m.e_)))||(m.C'.Kind !=k))= !((decide (0<=m.e_)&&decide (m.e_<30))&&(m.C'.Kind==k)):=by rw [tY];simp;grind
   rw [e1];cases ((decide (0<=m.e_)&&decide (m.e_<30))&&(m.C'.Kind==k))<;>cases pz m.C'<;>simp;cases m;simp;grind
  unfold ui;by_cases h3:m.Kind=3
  ·rw [bM (by simp [h3]),bM (by simp [h3]),bB (by simp [h3]),hk3,bM (show m.Kind=3\/m.Kind=4 from .inl h3),bM h3]
  rw [bB (by simpa using h3)];by_cases h4:m.Kind=4
  ·rw [bM (by simp [h4]),bM (by simp [h4]),hk3,bM (show m.Kind=3\/m.Kind=4 from .inr h4),bB h3]
  rw [bB (by simpa using h4),bB (show¬(m.Kind=3\/m.Kind=4) by omega)];by_cases h5:m.Kind=5
  ·rw [bM (by simp [h5]),bM h5,yk _ _ (by exact GV),bz];have e1:((m.G_ !=(140:Int))&&(m.G_ !=(300:Int)))= !((m.G_==140)||(m.G_==300)):=by rw [tY];simp
   rw [e1];cases ((m.G_==140)||(m.G_==300))<;>simp;cases m;simp;grind
  ·rw [bB (by simpa using h5),bB h5]
def hdB(m:cH):List Int:=u8l [m.Kind,m.f_,m.To,m.P']
def Ey(p:di):List Int:=gc (u64.wrap p.g_) 4++gc p.Seq 8++fB p.Q'.End::(if p.Q'.End then gc p.Q'.s_ 8 else(lsB p.Q'.Rows).1)
def Q8(p:di):List Int:=gc (u64.wrap p.g_) 4++gc p.Seq 8++gc p.J' 8
def VW(m:cH):List Int:=hdB m++(if m.Kind=1 then u8.wrap m.U'::RJ m.b_ else if m.Kind=3 then u8.wrap m.e_::Ey m.C' else if m.Kind=4 then u8.wrap m.e_::Q8 m.C' else if m.Kind=5 then [fB (m.G_==300)]else [])
def Yk{p:Int}(h0:0<=p)(h:p<18446744073709551616):gW p 8=some (gc p 8):=by
 obtain⟨n,rfl⟩:=Int.eq_ofNat_of_zero_le h0;exact s5 n 8 (by omega) (by omega)
def adl(p:Int):gW (u64.wrap p) 4=some (gc (u64.wrap p) 4):=by
 obtain⟨n,hn,he⟩:=Rz p;rw [he];exact s5 n 4 hn (by omega)
def afB{α:Type}(x:Option α):(x.bind fun r=>some r)=x:=by cases x<;>rfl
def Ns(m:cH)(hP:m.Kind=1->zk m.b_=some (RJ m.b_)/\(RJ m.b_).length<=1000000000)(hR:pz m.C'=true->SmR m.C'.Q'.Rows)(hr:q6 m=true):o9 m=jZ (VW m):=by
 unfold q6 at hr;rw [nw]at hr;have hr:=hr.2;unfold o9 VW;simp only [afB];have hh:[u8.wrap m.Kind,u8.wrap m.f_,u8.wrap m.To,u8.wrap m.P']=hdB m:=rfl;have hhl:(hdB m).length=4:=rfl;rw [hh];by_cases H:m.Kind=1
 ·obtain⟨hp1,hpl⟩:=hP H;rw [bM (by simp [H]),bM H,bZ (by simp;omega),bz,hp1,bz,bZ (by simp;omega),bz,jR];rfl
 rw [bB (by simpa using H),bB H];rw [bB H]at hr;have hpk:m.Kind=3\/m.Kind=4->pz m.C'=true/\m.C'.Kind=(if m.Kind=3 then 1 else 2):=fun h=>by
  rw [bB (by omega),bM h]at hr;simp only [nw,oJ]at hr;exact⟨hr.1.2,hr.1.1.2⟩
 have hdat:m.Kind=3->(0<=m.C'.Seq/\m.C'.Seq<18446744073709551616)/\(m.C'.Q'.End=true->0<=m.C'.Q'.s_/\m.C'.Q'.s_<18446744073709551616):=fun h=>by
  obtain⟨W,h3⟩:=hpk (.inl h);rw [bM h]at h3;unfold pz at W;rw [bM h3]at W;simp only [nw]at W;have h4:=W.2.2;unfold Di at h4;split at h4
  ·cases h4
  ·rename_i hc;simp at hc;refine⟨by omega,fun he=>?_⟩;rw [bM he]at h4;simp at h4;have:=h4.2;rw [EM]at this;omega
 have hack:m.Kind=4->(0<=m.C'.Seq/\m.C'.Seq<18446744073709551616)/\(0<=m.C'.J'/\m.C'.J'<18446744073709551616):=fun h=>by
  obtain⟨W,h3⟩:=hpk (.inr h);rw [bB (by omega)]at h3;unfold pz at W;rw [bB (by omega),bM h3]at W;simp at W;have:=W.2.1.2;rw [EM]at this;omega
 by_cases h3:m.Kind=3
 ·obtain⟨hq,hc⟩:=hdat h3;have hsr:=hR (hpk (.inl h3)).1;have hll:=Yp _ hsr;rw [bM (by simp [h3]),bM h3,bZ (by simp;omega),bz,adl,bz,bZ (by simp [gz];omega),bz,Yk hq.1 hq.2,bz,bZ (by simp [gz];omega),bz,Gv,bz,bZ (by simp [gz];omega),bz];unfold Ey
  cases he:m.C'.Q'.End with
  |true=>
   obtain⟨c1,c2⟩:=hc he;rw [bM rfl,bM rfl,Yk c1 c2,bz,bZ (by simp [gz];omega),bz];simp
  |false=>
   rw [bB (by simp),bB (by simp),Ll _ hsr,bz,bZ (by simp [gz];omega),bz];simp
 rw [bB (by simpa using h3),bB h3];by_cases h4:m.Kind=4
 ·obtain⟨hq,hc⟩:=hack h4;rw [bM (by simp [h4]),bM h4,bZ (by simp;omega),bz,adl,bz,bZ (by simp [gz];omega),bz,Yk hq.1 hq.2,bz,bZ (by simp [gz];omega),bz,Yk hc.1 hc.2,bz,bZ (by simp [gz];omega),bz];unfold Q8;simp
 rw [bB (by simpa using h4),bB h4];by_cases h5:m.Kind=5
 ·rw [bM (by simp [h5]),bM h5,Gv,bz,bZ (by simp;omega),bz]
 ·rw [bB (by simpa using h5),bB h5,vW]
def KR:Ba=some true:=by kernel_rfl
def Fo(b:List Int):pg b b=some true:=by unfold pg;simp
end
section
def ur{n:Nat}(h:n<=900000000):n<de:=by unfold de;omega
def rd(b:List Int)(k:Nat)(y:Int):av:=⟨⟨(k:Int),y⟩,b⟩
def yy(b:List Int)(k:Nat)(y:Int):ii (rd b k y)=some y:=by unfold ii;simp [rd]
def B5{b:List Int}{k:Nat}(y:Int)(hk:k<=b.length)(V:b.length<=50000000000):iy (rd b k y)=some ((b.length-k:Nat):Int):=by
 unfold iy;simp only [rd,jc,hX];rw [kW];congr 1;omega
def GD{α:Type}{b tl:List α}{k:Nat}{e:α}(h:b.drop k=e::tl):gw b (k:Int)=some e:=fh h
def yU{α:Type}{b:List α}{k:Nat}(h:k<b.length): ∃e,b.drop k=e::b.drop (k+1):=⟨b[k],Ce h⟩
def AH{i:Nat}(h:i<=50000000000):i64.wrap ((i:Int)+1)=((i+1:Nat):Int):=by rw [kW];omega
def UL(x c:Int):Int:=u64.wrap ((u64.wrap (x*2^(min (Int.toNat (8:Int)) u64.bits)))+(u64.wrap c))
def VP{b:List Int}(V:b.length<=50000000000): ∀(m n i k f:Nat) (x:Int),i+m=n->n<=50000000000->k+m<=b.length->m<f->
  ig (n:Int) f (i:Int) x (rd b k 0)=some (rd b (k+m) 0,((b.drop k).take m).foldl UL x)
 |0,n,i,k,f+1,x,H,_,_,_=>by
  unfold ig;rw [bB (by rw [mS];omega)];simp
 |m+1,n,i,k,f+1,x,H,hn,W,h3=>by
  obtain⟨e,he⟩:=yU (b:=b) (k:=k) (by omega);unfold ig;rw [bM (by rw [mS];omega)];have e1:gw (rd b k 0).own (rd b k 0).place.at_=some e:=GD he;rw [e1,bz];show(some (UL x e)).bind _=_;rw [bz,AH (by omega)];have e2:({rd b k 0 with place:=({(rd b k 0).place with at_:=i64.wrap ((rd b k 0).place.at_+1)}:rJ)}:av)=rd b (k+1) 0:=by
   show(⟨⟨i64.wrap ((k:Int)+1),0⟩,b⟩:av)=_;rw [AH (by omega)];rfl
  rw [e2,VP V m n (i+1) (k+1) f (UL x e) (by omega) hn (by omega) (by omega),he,show k+1+m=k+(m+1)from by omega];rfl
def JI{b:List Int}{k n:Nat}(y:Int)(hk:k<=b.length)(V:b.length<=900000000):df (rd b k y) (n:Int)=
  some (if y≠0 then(0,rd b k y)else if b.length-k<n then(0,rd b k 7)else(((b.drop k).take n).foldl UL 0,rd b (k+n) 0)):=by
 unfold df qA;by_cases hy:y=0
 ·subst hy;rw [bB (by simp [rd]),bB (by rw [mS];omega),B5 0 hk (by omega),bz];by_cases hn:b.length-k<n
  ·rw [bM (by rw [mS];omega),bB (by simp),bM hn];rfl
  ·rw [bB (by rw [mS];omega),bB (by simp),bB hn];have:=VP (b:=b) (by omega) n n 0 k de 0 (by omega) (by omega) (by omega) (ur (by omega));rw [show((0:Nat):Int)=(0:Int)from rfl]at this;rw [this];rfl
 ·rw [bM (by simp [rd,hy]),bM hy];rfl
def VQ{b:List Int}(V:b.length<=50000000000): ∀(m n i k f:Nat) (x:List Int),i+m=n->n<=50000000000->k+m<=b.length->m<f->x.length+m<=60000000000->
  ie (n:Int) f (i:Int) x (rd b k 0)=some (rd b (k+m) 0,x++(b.drop k).take m)
 |0,n,i,k,f+1,x,H,_,_,_,_=>by
  unfold ie;rw [bB (by rw [mS];omega)];simp
 |m+1,n,i,k,f+1,x,H,hn,W,h3,h4=>by
  obtain⟨e,he⟩:=yU (b:=b) (k:=k) (by omega);unfold ie;rw [bM (by rw [mS];omega)];have e1:gw (rd b k 0).own (rd b k 0).place.at_=some e:=GD he;rw [e1,bz];unfold tn;rw [bZ (by simp;omega),bz,bz,AH (by omega)];have e2:({rd b k 0 with place:=({(rd b k 0).place with at_:=i64.wrap ((rd b k 0).place.at_+1)}:rJ)}:av)=rd b (k+1) 0:=by
   show(⟨⟨i64.wrap ((k:Int)+1),0⟩,b⟩:av)=_;rw [AH (by omega)];rfl
  rw [e2,VQ V m n (i+1) (k+1) f (x++[e]) (by omega) hn (by omega) (by omega) (by simp;omega),he,show k+1+m=k+(m+1)from by omega,jR];rfl
def Mp{b:List Int}{k n:Nat}(y:Int)(hk:k<=b.length)(V:b.length<=900000000):kO (rd b k y) (n:Int)=
  some (if y≠0 then([],rd b k y)else if b.length-k<n then([],rd b k 7)else((b.drop k).take n,rd b (k+n) 0)):=by
 unfold kO qz;by_cases hy:y=0
 ·subst hy;rw [bB (by simp [rd]),bB (by rw [mS];omega),B5 0 hk (by omega),bz];by_cases hn:b.length-k<n
  ·rw [bM (by rw [mS];omega),bB (by simp),bM hn];rfl
  ·rw [bB (by rw [mS];omega),bB (by simp),bB hn];have:=VQ (b:=b) (by omega) n n 0 k de [] (by omega) (by omega) (by omega) (ur (by omega)) (by simp;omega);rw [show((0:Nat):Int)=(0:Int)from rfl]at this;rw [this];rfl
 ·rw [bM (by simp [rd,hy]),bM hy];rfl
def bn:List Int->Int
 |[]=>0
 |c::l=>c*256^l.length+bn l
def pV{c:Int}{l:List Int}(h:qV (c::l)):(∃n:Nat,n<256/\c=(n:Int))/\qV l:=⟨h c (.head _),fun x K=>h x (.tail _ K)⟩
def Xh: ∀{l:List Int},qV l->0<=bn l/\bn l<256^l.length
 |[],_=>by simp [bn]
 |c::l,h=>by
  obtain⟨⟨n,H,rfl⟩,W⟩:=pV h;obtain⟨h3,h4⟩:=Xh W;have hp:(0:Int)<256^l.length:=Int.pow_pos (by omega);constructor
  ·exact Int.add_nonneg (Int.mul_nonneg (by omega) (by omega)) h3
  ·show(n:Int)*256^l.length+bn l<256^(l.length+1);have:(n:Int)*256^l.length<=255*256^l.length:=Int.mul_le_mul_of_nonneg_right (by omega) (by omega);rw [Int.pow_succ];omega
def aa2{x c:Int}(K:0<=x)(hx' :x<256^7)(hc:0<=c)(hc' :c<256):UL x c=x*256+c:=by
 unfold UL;rw [show(2:Int)^(min (Int.toNat (8:Int)) u64.bits)=256 from rfl,EM,EM,EM];omega
def Oi: ∀(l:List Int) (x:Int) (j:Nat),qV l->0<=x->x<256^j->j+l.length<=8->l.foldl UL x=x*256^l.length+bn l
 |[],x,_,_,_,_,_=>by show x=x*256^0+0;rw [Int.pow_zero,Int.mul_one,Int.add_zero]
 |c::l,x,j,h,h0,K,hj=>by
  obtain⟨⟨n,H,rfl⟩,W⟩:=pV h;have h7:x<256^7:=by
   have h8:(256:Int)^j<=256^7:=by
    have:(256:Nat)^j<=256^7:=Nat.pow_le_pow_right (by omega) (by simp at hj;omega);have h9:((256:Nat):Int)^j<=((256:Nat):Int)^7:=by rw [<-Int.natCast_pow,<-Int.natCast_pow];exact Int.ofNat_le.2 this
    exact h9
   omega
  rw [List.foldl_cons,aa2 h0 h7 (by omega) (by omega),Oi l (x*256+n) (j+1) W (by omega) (by rw [Int.pow_succ];omega) (by simp at hj ⊢;omega)];simp only [bn,jl,Int.pow_succ];rw [Int.add_mul,Int.mul_assoc,Int.mul_comm 256 (256^l.length),Int.add_assoc]
def LK{l:List Int}(h:qV l)(hl:l.length<=8):l.foldl UL 0=bn l:=by
 have:=Oi l 0 0 h (by omega) (by rw [Int.pow_zero];omega) (by omega);rw [Int.zero_mul,Int.zero_add]at this;exact this
def ka{l:List Int}(h:qV l)(k:Nat):qV (l.drop k):=fun x K=>h x (List.mem_of_mem_drop K)
def pU{l:List Int}(h:qV l)(k:Nat):qV (l.take k):=fun x K=>h x (List.mem_of_mem_take K)
end
section
class Ml(ρ:Type) where
 inv:List Int->ρ->Prop
 bad:ρ->Bool
instance rstR:Ml bq:=⟨fun b r=>r.all=b,fun r=>r.bad⟩
instance rstT:Ml dx:=⟨fun b t=>t.all=(b.length:Int),fun t=>t.bad⟩
variable{ρ:Type} [Ml ρ]
def Ok(b:List Int)(k:Nat)(r:ρ)(o:av):Prop:=Ml.inv b r/\Ml.bad r=false/\o=rd b k 0/\k<=b.length
def No(b:List Int)(r:ρ)(o:av):Prop:=Ml.inv b r/\ ∃k y,o=rd b k y/\k<=b.length/\(Ml.bad r=true\/y≠0)
abbrev Pr(α:Type):=List Int->Option (α×List Int)
def O9(b:List Int){α:Type}(q:Option (α×List Int))(x:α)(r:ρ)(o:av):Prop:=
 match q with
 |some (v,rest)=>x=v/\ ∃k,Ok b k r o/\b.drop k=rest
 |none=>No b r o
structure Rd(b:List Int){α:Type}(f:ρ->av->Option (α×ρ×av))(p:Pr α):Prop where
 ok: ∀k r o,Ok b k r o-> ∃x r' o',f r o=some (x,r',o')/\O9 b (p (b.drop k)) x r' o'
 no: ∀r o,No b r o-> ∃x r' o',f r o=some (x,r',o')/\No b r' o'
def cE{α β:Type}(p:Pr α)(q:α->Pr β):Pr β:=fun l=>(p l).bind fun u=>q u.1 u.2
def iH{α β:Type}(h:α->β)(p:Pr α):Pr β:=fun l=>(p l).map fun u=>(h u.1,u.2)
def Rd.congr{b:List Int}{α:Type}{f g:ρ->av->Option (α×ρ×av)}{p:Pr α}(h:Rd b f p)(e: ∀r o,g r o=f r o):Rd b g p:=
 ⟨fun k r o hk=>by rw [e];exact h.ok k r o hk,fun r o hn=>by rw [e];exact h.no r o hn⟩
def Rd.bind{b:List Int}{α β:Type}{f:ρ->av->Option (α×ρ×av)}{p:Pr α}{g:α->ρ->av->Option (β×ρ×av)}{q:α->Pr β}(hf:Rd b f p)(Y: ∀x,Rd b (g x) (q x)):
  Rd b (fun r o=>(f r o).bind fun u=>g u.1 u.2.1 u.2.2) (cE p q):=by
 refine⟨fun k r o hk=>?_,fun r o hn=>?_⟩
 ·obtain⟨x,r1,o1,H,W⟩:=hf.ok k r o hk;rw [H,bz];unfold O9 at W;unfold cE
  cases hp:p (b.drop k)with
  |none=>
   rw [hp]at W;obtain⟨y,r2,o2,h3,h4⟩:=(Y x).no r1 o1 W;exact⟨y,r2,o2,h3,h4⟩
  |some v=>
   rw [hp]at W;obtain⟨rfl,k1,h3,h4⟩:=W;obtain⟨y,r2,o2,h5,h6⟩:=(Y v.1).ok k1 r1 o1 h3;rw [h4]at h6;exact⟨y,r2,o2,h5,h6⟩
 ·obtain⟨x,r1,o1,H,W⟩:=hf.no r o hn;rw [H,bz];exact(Y x).no r1 o1 W
def Mo{b:List Int}{α:Type}(x:α):Rd b (fun(r:ρ) o=>some (x,r,o)) (fun l=>some (x,l)):=
 ⟨fun k r o hk=>⟨x,r,o,rfl,rfl,k,hk,rfl⟩,fun r o hn=>⟨x,r,o,rfl,hn⟩⟩
def Rd.map{b:List Int}{α β:Type}{f:ρ->av->Option (α×ρ×av)}{p:Pr α}(h:α->β)(hf:Rd b f p):
  Rd b (fun r o=>(f r o).bind fun u=>some (h u.1,u.2.1,u.2.2)) (iH h p):=by
 have:=hf.bind (g:=fun x r o=>some (h x,r,o)) (q:=fun x l=>some (h x,l)) fun x=>Mo (h x);have e:iH h p=cE p (fun x l=>some (h x,l)):=by
  funext l;unfold iH cE;cases p l<;>rfl
 rw [e];exact this
def Kc{b:List Int}{k:Nat}{r:bq}{o:av}(h:Ok b k r o):eo r o=some true:=by
 obtain⟨_,W,rfl,_⟩:=h;have W:r.bad=false:=W;unfold eo;rw [W,bM (show(!false)=true from rfl),yy];rfl
def Ke{b:List Int}{r:bq}{o:av}(h:No b r o):eo r o=some false:=by
 obtain⟨_,k,y,rfl,_,W⟩:=h;have W:r.bad=true\/y≠0:=W;unfold eo
 cases V:r.bad with
 |true=>simp
 |false=>
  have hy:y≠0:=by rcases W with h|h;rw [V]at h;cases h;exact h
  rw [bM (show(!false)=true from rfl),yy];simp [hy]
def PY{b:List Int}{k:Nat}{r:dx}{o:av}(h:Ok b k r o):fZ r o=some true:=by
 obtain⟨_,W,rfl,_⟩:=h;have W:r.bad=false:=W;unfold fZ;rw [W,bM (show(!false)=true from rfl),yy];rfl
def PZ{b:List Int}{r:dx}{o:av}(h:No b r o):fZ r o=some false:=by
 obtain⟨_,k,y,rfl,_,W⟩:=h;have W:r.bad=true\/y≠0:=W;unfold fZ
 cases V:r.bad with
 |true=>simp
 |false=>
  have hy:y≠0:=by rcases W with h|h;rw [V]at h;cases h;exact h
  rw [bM (show(!false)=true from rfl),yy];simp [hy]
structure y8(b:List Int){α E:Type}(I:Nat->E->Prop)(f:E->ρ->av->Option (α×ρ×av×E))(p:E->Pr (α×E)):Prop where
 ok: ∀j e k r o,j<=70000->I j e->Ok b k r o-> ∃x r' o' e',f e r o=some (x,r',o',e')/\I (j+1) e' /\O9 b (p e (b.drop k)) (x,e') r' o'
 no: ∀j e r o,j<=70000->I j e->No b r o-> ∃x r' o' e',f e r o=some (x,r',o',e')/\I (j+1) e' /\No b r' o'
def nu{α E:Type}(p:E->Pr (α×E)):Nat->E->Pr (List α×E)
 |0,e,l=>some (([],e),l)
 |n+1,e,l=>(p e l).bind fun u=>(nu p n u.1.2 u.2).bind fun v=>some ((u.1.1::v.1.1,v.1.2),v.2)
def T5{b:List Int}{α E:Type}{I:Nat->E->Prop}{f:E->ρ->av->Option (α×ρ×av×E)}{p:E->Pr (α×E)}(hf:y8 b I f p){okf:ρ->av->Option Bool}(ok1: ∀k r o,Ok b k r o->okf r o=some true)(ok0: ∀r o,No b r o->okf r o=some false)(N:Int)(hN:N<=65535)
  {L:Nat->List α->Int->ρ->av->E->Option (List α×ρ×av×E)}
  (hL: ∀fu out x r o e,L (fu+1) out x r o e=if decide (x<N)=true then(okf r o).bind fun c=>if(!c)=true then some (out,r,o,e)else(f e r o).bind fun u=>(hU out [u.1]).bind fun V'=>L fu V' (i64.wrap (x+1)) u.2.1 u.2.2.1 u.2.2.2 else some (out,r,o,e)):
  ∀(m i fu:Nat) (out:List α) (k:Nat) (r:ρ) (o:av) (e:E),(i:Int)+m=N->m<fu->out.length<=i->I i e->Ok b k r o->
   ∃ys r' o' e',L fu out i r o e=some (ys,r',o',e')/\O9 b ((nu p m e (b.drop k)).map fun u=>((out++u.1.1,u.1.2),u.2)) (ys,e') r' o' :=by
 intro m
 induction m with
 |zero=>
  intro i fu out k r o e H W h3 h4 h5
  cases fu with
  |zero=>omega
  |succ fu=>
   refine⟨out,r,o,e,?_,by simp [nu],k,h5,rfl⟩;rw [hL,bB (by rw [mS];omega)]
 |succ m ih=>
  intro i fu out k r o e H W h3 h4 h5
  cases fu with
  |zero=>omega
  |succ fu=>
   obtain⟨x,r1,o1,e1,g1,g2,g3⟩:=hf.ok i e k r o (by omega) h4 h5;rw [hL,bM (by rw [mS];omega),ok1 k r o h5,bz,bB (by simp),g1,bz,bZ (by simp;omega),bz,AH (by omega)];unfold nu;unfold O9 at g3
   cases hp:p e (b.drop k)with
   |none=>
    rw [hp]at g3
    cases fu with
    |zero=>omega
    |succ fu=>
     refine⟨out++[x],r1,o1,e1,?_,g3⟩;rw [hL,ok0 r1 o1 g3];split<;>simp
   |some v=>
    obtain⟨⟨v1,v2⟩,v3⟩:=v;rw [hp]at g3;obtain⟨hv,k1,g4,g5⟩:=g3;cases hv;obtain⟨ys,r2,o2,e2,q1,q2⟩:=ih (i+1) fu (out++[x]) k1 r1 o1 e1 (by omega) (by omega) (by simp;omega) g2 g4;refine⟨ys,r2,o2,e2,q1,?_⟩;rw [g5]at q2;simp only [bz]
    cases hq:nu p m e1 v3 with
    |none=>rw [hq]at q2;exact q2
    |some w=>rw [hq]at q2;simpa using q2
def Yo{b:List Int}{α E:Type}{okf:ρ->av->Option Bool}(ok0: ∀r o,No b r o->okf r o=some false)(N:Int){L:Nat->List α->Int->ρ->av->E->Option (List α×ρ×av×E)}{g:E->ρ->av->List α->Int->Nat->Option (List α×ρ×av×E)}
  (hL: ∀fu out x r o e,L (fu+1) out x r o e=if decide (x<N)=true then(okf r o).bind fun c=>if(!c)=true then some (out,r,o,e)else g e r o out x fu else some (out,r,o,e))(fu:Nat)(out:List α)(x:Int)(r:ρ)(o:av)(e:E)(h:No b r o):
  L (fu+1) out x r o e=some (out,r,o,e):=by
 rw [hL,ok0 r o h];split<;>simp
end
section
def Eg: ∃n,de=n+1:=⟨de-1,by have:=ur (n:=0) (by omega);omega⟩
def Eb{ρ:Type} [Ml ρ]{b:List Int}{α E:Type}{I:Nat->E->Prop}{f:E->ρ->av->Option (α×ρ×av×E)}{p:E->Pr (α×E)}(hf:y8 b I f p){okf:ρ->av->Option Bool}(ok1: ∀k r o,Ok b k r o->okf r o=some true)(ok0: ∀r o,No b r o->okf r o=some false)(N:Int)(hN:N<=65535)(e0:E)(h0:I 0 e0)
  {L:Nat->List α->Int->ρ->av->E->Option (List α×ρ×av×E)}
  (hL: ∀fu out x r o e,L (fu+1) out x r o e=if decide (x<N)=true then(okf r o).bind fun c=>if(!c)=true then some (out,r,o,e)else(f e r o).bind fun u=>(hU out [u.1]).bind fun V'=>L fu V' (i64.wrap (x+1)) u.2.1 u.2.2.1 u.2.2.2 else some (out,r,o,e)):
  Rd b (fun r o=>(L de [] 0 r o e0).bind fun q=>some (q.1,q.2.1,q.2.2.1)) (fun l=>(nu p N.toNat e0 l).map fun u=>(u.1.1,u.2)):=by
 refine⟨fun k r o hk=>?_,fun r o hn=>?_⟩
 ·rcases Int.lt_or_le N 0 with hneg|hpos
  ·obtain⟨n,hn⟩:=Eg;rw [hn,hL,bB (by rw [mS];omega),show N.toNat=0 from by omega];exact⟨[],r,o,rfl,rfl,k,hk,rfl⟩
  ·obtain⟨ys,r',o',e',H,W⟩:=T5 hf ok1 ok0 N hN hL N.toNat 0 de [] k r o e0 (by omega) (ur (by omega)) (by simp) h0 hk;rw [show((0:Nat):Int)=(0:Int)from rfl]at H;rw [H];refine⟨ys,r',o',rfl,?_⟩
   cases hq:nu p N.toNat e0 (b.drop k)with
   |none=>rw [hq]at W;exact W
   |some w=>
    rw [hq]at W;obtain⟨h3,h4⟩:=W;exact⟨by have:=congrArg Prod.fst h3;simpa using this,h4⟩
 ·obtain⟨n,hn'⟩:=Eg;rw [hn',Yo ok0 N (g:=fun e r o out x fu=>(f e r o).bind fun u=>(hU out [u.1]).bind fun V'=>L fu V' (i64.wrap (x+1)) u.2.1 u.2.2.1 u.2.2.2) hL n [] 0 r o e0 hn];exact⟨[],r,o,rfl,hn⟩
def pw(n:Nat):Pr Int:=fun l=>if l.length<n then none else some (bn (l.take n),l.drop n)
def wR{ρ:Type}(n:Nat)(r:ρ)(o:av):Option (Int×ρ×av):=(df o (n:Int)).map fun q=>(q.1,r,q.2)
section
variable{b:List Int}(V:b.length<=900000000)(N':qV b)
include V N'
def MU{ρ:Type} [Ml ρ](n:Nat)(hn:n<=8):Rd b (wR (ρ:=ρ) n) (pw n):=by
 refine⟨fun k r o ⟨H,W,h3,h4⟩=>?_,fun r o ⟨H,k,y,h3,h4,h5⟩=>?_⟩
 ·subst h3;unfold wR pw;rw [JI 0 h4 V,bB (by simp),Ao];by_cases h:b.length-k<n
  ·rw [bM h,bM h];exact⟨0,r,rd b k 7,rfl,H,k,7,rfl,h4,.inr (by decide)⟩
  ·rw [bB h,bB h];refine⟨_,r,_,rfl,LK (pU (ka N' k) n) (by simp;omega),k+n,⟨H,W,rfl,by omega⟩,by rw [uH]⟩
 ·subst h3;unfold wR;rw [JI y h4 V];split
  ·exact⟨_,_,_,rfl,H,k,y,rfl,h4,h5⟩
  ·rename_i hy;have hbad:Ml.bad r=true:=h5.resolve_right hy;split
   ·exact⟨_,_,_,rfl,H,k,7,rfl,h4,.inl hbad⟩
   ·exact⟨_,_,_,rfl,H,k+n,0,rfl,by omega,.inl hbad⟩
end
def h8(x:Int):Int:=u8.wrap x
def p8:Pr Int:=iH (fun x=>i64.wrap (u8.wrap x)) (pw 1)
def D3{c:Int}{l:List Int}(h:qV (c::l)):p8 (c::l)=some (c,l):=by
 obtain⟨⟨n,H,rfl⟩,W⟩:=pV h;unfold p8 iH pw;rw [bB (by simp)];simp only [nq,List.take_succ_cons,List.take_zero,List.drop_succ_cons,yf,bn,yg,Int.pow_zero,Int.mul_one,Int.add_zero];have e:i64.wrap (u8.wrap (n:Int))=(n:Int):=by rw [xq,kW];omega
 rw [e]
def n6(r:bq)(o:av):Option (Int×bq×av):=(bv r o).map fun q=>(q.1,r,q.2)
section
variable{b:List Int}(V:b.length<=900000000)(N':qV b)
include V N'
def qZ:Rd b n6 p8:=((MU V N' 1 (by omega)).map _).congr fun r o=>by
 unfold n6 wR bv dd;rw [show((1:Nat):Int)=1 from rfl];cases df o 1<;>rfl
def S5{ρ:Type}(r:ρ)(o:av):Option (Int×ρ×av):=(jC o).map fun q=>(i64.wrap q.1,r,q.2)
def Ya:Pr Int:=iH (fun x=>i64.wrap (u16.wrap x)) (pw 2)
def Vh{ρ:Type} [Ml ρ]:Rd b (S5 (ρ:=ρ)) Ya:=((MU V N' 2 (by omega)).map _).congr fun r o=>by
 unfold S5 wR jC;rw [show((2:Nat):Int)=2 from rfl];cases df o 2<;>rfl
def Vg{ρ:Type}(r:ρ)(o:av):Option (Int×ρ×av):=(mO o).map fun q=>(q.1,r,q.2)
def X9:Pr Int:=iH u32.wrap (pw 4)
def Vf{ρ:Type} [Ml ρ]:Rd b (Vg (ρ:=ρ)) X9:=((MU V N' 4 (by omega)).map _).congr fun r o=>by
 unfold Vg wR mO;rw [show((4:Nat):Int)=4 from rfl];cases df o 4<;>rfl
def KW{ρ:Type}(r:ρ)(o:av):Option (Int×ρ×av):=(eX o).map fun q=>(q.1,r,q.2)
def KV{ρ:Type} [Ml ρ]:Rd b (KW (ρ:=ρ)) (pw 8):=(MU V N' 8 (by omega)).congr fun r o=>by
 unfold KW wR eX;rw [show((8:Nat):Int)=8 from rfl];cases df o 8<;>rfl
def yI:Pr Bool:=fun l=>(p8 l).bind fun u=>if 1<u.1 then none else some (u.1==1,u.2)
def GE:Rd b gO yI:=by
 have hs:=qZ V N';have e: ∀r o,gO r o=(dd o).bind fun r1=>some ((r1.1==(1:Int)),({r with bad:=(r.bad||(decide ((1:Int)<r1.1)))}:bq),r1.2):=fun _ _=>rfl;have u8z: ∀r o x r' o',n6 r o=some (x,r',o')-> ∃c,dd o=some (c,o')/\r' =r/\x=i64.wrap c/\u8.wrap c=c:=by
  intro r o x r' o' h;unfold n6 bv dd at h;unfold dd
  cases hq:df o 1 with
  |none=>rw [hq]at h;cases h
  |some q=>
   rw [hq]at h;cases h;exact⟨_,rfl,rfl,rfl,by rw [xq,xq];omega⟩
 have wc: ∀c,u8.wrap c=c->i64.wrap c=c:=fun c h=>by rw [xq]at h;rw [kW];omega
 refine⟨fun k r o hk=>?_,fun r o hn=>?_⟩
 ·obtain⟨x,r1,o1,H,W⟩:=hs.ok k r o hk;obtain⟨c,h3,rfl,rfl,h4⟩:=u8z r o x r1 o1 H;rw [e,h3,bz];rw [wc c h4]at W;refine⟨_,_,_,rfl,?_⟩;unfold yI;unfold O9 at W
  cases hp:p8 (b.drop k)with
  |none=>
   rw [hp]at W;obtain⟨g1,k',y,g2,g3,g4⟩:=W;exact⟨g1,k',y,g2,g3,g4.imp (fun(h:r1.bad=true)=>show(r1.bad||_)=true by rw [h];rfl) id⟩
  |some v=>
   rw [hp]at W;obtain⟨rfl,k',⟨g1,g2,g3,g4⟩,g5⟩:=W;by_cases h1c:1<v.1
   ·simp only [bz,bM h1c];exact⟨g1,k',0,g3,g4,.inl (show(r1.bad||decide (1<v.1))=true by simp [h1c])⟩
   ·simp only [bz,bB h1c];exact⟨rfl,k',⟨g1,(show(r1.bad||decide (1<v.1))=false by rw [show r1.bad=false from g2];simp [h1c]),g3,g4⟩,g5⟩
 ·obtain⟨x,r1,o1,H,W⟩:=hs.no r o hn;obtain⟨c,h3,rfl,rfl,h4⟩:=u8z r o x r1 o1 H;rw [e,h3,bz];obtain⟨g1,k',y,g2,g3,g4⟩:=W;exact⟨_,_,_,rfl,g1,k',y,g2,g3,g4.imp (fun(h:r1.bad=true)=>show(r1.bad||_)=true by rw [h];rfl) id⟩
end
def Rd.toE{ρ:Type} [Ml ρ]{b:List Int}{α:Type}{f:ρ->av->Option (α×ρ×av)}{p:Pr α}(h:Rd b f p):y8 b (fun _ _=>True) (fun(_:Unit) r o=>(f r o).map fun q=>(q.1,q.2.1,q.2.2,())) (fun _ l=>(p l).map fun u=>((u.1,()),u.2)):=by
 refine⟨fun j e k r o _ _ hk=>?_,fun j e r o _ _ hn=>?_⟩
 ·obtain⟨x,r1,o1,H,W⟩:=h.ok k r o hk;refine⟨x,r1,o1,(),by rw [H];rfl,trivial,?_⟩;unfold O9 at W ⊢
  cases hp:p (b.drop k)with
  |none=>rw [hp]at W;exact W
  |some v=>rw [hp]at W;exact⟨by rw [W.1],W.2⟩
 ·obtain⟨x,r1,o1,H,W⟩:=h.no r o hn;exact⟨x,r1,o1,(),by rw [H];rfl,trivial,W⟩
def pl{α:Type}(p:Pr α):Nat->Pr (List α)
 |0,l=>some ([],l)
 |n+1,l=>(p l).bind fun u=>(pl p n u.2).bind fun v=>some (u.1::v.1,v.2)
def Gz{α:Type}(p:Pr α): ∀(n:Nat) (l:List Int),(nu (fun(_:Unit) l=>(p l).map fun u=>((u.1,()),u.2)) n () l).map (fun u=>(u.1.1,u.2))=pl p n l
 |0,_=>rfl
 |n+1,l=>by
  unfold nu pl
  cases p l with
  |none=>rfl
  |some u=>
   simp only [nq,bz];rw [<-Gz p n u.2];cases nu (fun(_:Unit) l=>(p l).map fun u=>((u.1,()),u.2)) n () u.2<;>rfl
end
section
variable{ρ:Type} [Ml ρ]
def Ve(r:ρ)(o:av):Option (Int×ρ×av):=(dd o).map fun q=>(i64.wrap q.1,r,q.2)
def Vu(n:Nat)(r:ρ)(o:av):Option (List Int×ρ×av):=(kO o (n:Int)).map fun q=>(q.1,r,q.2)
def Ls(n:Nat):Pr (List Int):=fun l=>if l.length<n then none else some (l.take n,l.drop n)
def yP(c:Bool)(t:dx)(o:av):Option (Unit×dx×av):=(dz t o c).map fun t' =>((),t',o)
def yH(c:Bool):Pr Unit:=fun l=>if c then some ((),l)else none
def FD{α:Type}(okf:ρ->av->Option Bool)(x0:α)(f:ρ->av->Option (α×ρ×av))(r:ρ)(o:av):Option (α×ρ×av):=(okf r o).bind fun c=>if c then f r o else some (x0,r,o)
section
variable{b:List Int}(V:b.length<=900000000)(N':qV b)
include V N'
def Ry:Rd b (Ve (ρ:=ρ)) p8:=((MU V N' 1 (by omega)).map _).congr fun r o=>by
 unfold Ve wR dd;rw [show((1:Nat):Int)=1 from rfl];cases df o 1<;>rfl
omit N' in
def abd(n:Nat):Rd b (Vu (ρ:=ρ) n) (Ls n):=by
 refine⟨fun k r o ⟨H,W,h3,h4⟩=>?_,fun r o ⟨H,k,y,h3,h4,h5⟩=>?_⟩
 ·subst h3;unfold Vu Ls;rw [Mp 0 h4 V,bB (by simp),Ao];by_cases h:b.length-k<n
  ·rw [bM h,bM h];exact⟨[],r,rd b k 7,rfl,H,k,7,rfl,h4,.inr (by decide)⟩
  ·rw [bB h,bB h];exact⟨_,r,_,rfl,rfl,k+n,⟨H,W,rfl,by omega⟩,by rw [uH]⟩
 ·subst h3;unfold Vu;rw [Mp y h4 V];split
  ·exact⟨_,_,_,rfl,H,k,y,rfl,h4,h5⟩
  ·rename_i hy;have hbad:Ml.bad r=true:=h5.resolve_right hy;split
   ·exact⟨_,_,_,rfl,H,k,7,rfl,h4,.inl hbad⟩
   ·exact⟨_,_,_,rfl,H,k+n,0,rfl,by omega,.inl hbad⟩
end
def D8{b:List Int}(c:Bool):Rd b (yP c) (yH c):=by
 refine⟨fun k r o ⟨H,W,h3,h4⟩=>?_,fun r o ⟨H,k,y,h3,h4,h5⟩=>?_⟩
 ·subst h3;have W:r.bad=false:=W;unfold yP dz yH;rw [W,bB (by simp),yy]
  cases c with
  |true=>exact⟨(),_,_,rfl,rfl,k,⟨H,rfl,rfl,h4⟩,rfl⟩
  |false=>exact⟨(),_,_,rfl,H,k,0,rfl,h4,.inl rfl⟩
 ·subst h3;have h5:r.bad=true\/y≠0:=h5;unfold yP dz
  cases V:r.bad with
  |true=>exact⟨(),_,_,rfl,H,k,y,rfl,h4,.inl rfl⟩
  |false=>
   have hy:y≠0:=by rcases h5 with h|h;rw [V]at h;cases h;exact h
   rw [bB (by simp),yy];exact⟨(),_,_,rfl,H,k,y,rfl,h4,.inr hy⟩
def Mn{b:List Int}{α:Type}{okf:ρ->av->Option Bool}(ok1: ∀k r o,Ok b k r o->okf r o=some true)(ok0: ∀r o,No b r o->okf r o=some false)(x0:α){f:ρ->av->Option (α×ρ×av)}{p:Pr α}(hf:Rd b f p):Rd b (FD okf x0 f) p:=by
 refine⟨fun k r o hk=>?_,fun r o hn=>?_⟩
 ·unfold FD;rw [ok1 k r o hk];exact hf.ok k r o hk
 ·unfold FD;rw [ok0 r o hn];exact⟨x0,r,o,rfl,hn⟩
def Ij(v:aD):dx->av->Option (aD×dx×av):=fun t o=>(yP (iM v) t o).bind fun u=>some (v,u.2.1,u.2.2)
def D0(v:aD):Pr aD:=cE (yH (iM v)) fun _ l=>some (v,l)
def Ex{b:List Int}(v:aD):Rd b (Ij v) (D0 v):=(D8 _).bind (g:=fun _ t o=>some (v,t,o)) fun _=>Mo v
def v0:aD:=⟨0,0,0,[]⟩
def i64z(x:Int):Int:=i64.wrap x
def dN(c x:Int):dx->av->Option (aD×dx×av):=Ij ⟨c,x,0,[]⟩
def abl(c:Int)(t:dx)(o:av):Option (aD×dx×av):=(Ve t o).bind fun u=>dN c u.1 u.2.1 u.2.2
def aby(c:Int)(t:dx)(o:av):Option (aD×dx×av):=(KW t o).bind fun u=>dN c (i64z u.1) u.2.1 u.2.2
def dS(c:Int)(bx:List Int):dx->av->Option (aD×dx×av):=Ij ⟨c,0,0,mF bx⟩
def XY(c u:Int)(t:dx)(o:av):Option (aD×dx×av):=(FD fZ [] (Vu u.toNat) t o).bind fun bx=>dS c bx.1 bx.2.1 bx.2.2
def XX(c u:Int)(t:dx)(o:av):Option (aD×dx×av):=(yP (decide (u<=40)) t o).bind fun w=>XY c u w.2.1 w.2.2
def aa5(c:Int)(t:dx)(o:av):Option (aD×dx×av):=(Ve t o).bind fun u=>XX c u.1 u.2.1 u.2.2
def dU(c u w:Int):dx->av->Option (aD×dx×av):=Ij ⟨c,i64z u,w,[]⟩
def XW(c u:Int)(t:dx)(o:av):Option (aD×dx×av):=(KW t o).bind fun w=>dU c u w.1 w.2.1 w.2.2
def aa6(c:Int)(t:dx)(o:av):Option (aD×dx×av):=(KW t o).bind fun u=>XW c u.1 u.2.1 u.2.2
def SI(c:Int):dx->av->Option (aD×dx×av):=if c==1 then abl c else if c==2 then aby c else if c==3 then aa5 c else if c==4 then aa6 c else Ij ⟨c,0,0,[]⟩
def TF(c:Int):Pr aD:=cE p8 fun u=>D0 ⟨c,u,0,[]⟩
def PR(c:Int):Pr aD:=cE (pw 8) fun u=>D0 ⟨c,i64z u,0,[]⟩
def Nw(c u:Int):Pr aD:=cE (Ls u.toNat) fun bx=>D0 ⟨c,0,0,mF bx⟩
def Vw(c u:Int):Pr aD:=cE (yH (decide (u<=40))) fun _=>Nw c u
def Nx(c:Int):Pr aD:=cE p8 (Vw c)
def RE(c u:Int):Pr aD:=cE (pw 8) fun w=>D0 ⟨c,i64z u,w,[]⟩
def PL(c:Int):Pr aD:=cE (pw 8) (RE c)
def yK(c:Int):Pr aD:=if c==1 then TF c else if c==2 then PR c else if c==3 then Nx c else if c==4 then PL c else D0 ⟨c,0,0,[]⟩
section
variable{b:List Int}(V:b.length<=900000000)(N':qV b)
include V N'
def Z8(c:Int):Rd b (SI c) (yK c):=by
 have a1:Rd b (abl c) (TF c):=Rd.bind (g:=fun u=>dN c u) (Ry V N') fun u=>Ex _;have a2:Rd b (aby c) (PR c):=Rd.bind (g:=fun u=>dN c (i64z u)) (KV V N') fun u=>Ex _;have a3: ∀u,Rd b (XY c u) (Nw c u):=fun u=>Rd.bind (g:=fun bx=>dS c bx) (Mn (fun _ _ _=>PY) (fun _ _=>PZ) [] (abd V _)) fun bx=>Ex _;have a4: ∀u,Rd b (XX c u) (Vw c u):=fun u=>Rd.bind (g:=fun _=>XY c u) (D8 _) fun _=>a3 u;have a5:Rd b (aa5 c) (Nx c):=Rd.bind (g:=XX c) (Ry V N') a4;have a6: ∀u,Rd b (XW c u) (RE c u):=fun u=>Rd.bind (g:=fun w=>dU c u w) (KV V N') fun w=>Ex _;have a7:Rd b (aa6 c) (PL c):=Rd.bind (g:=XW c) (KV V N') a6;unfold SI yK;split
 ·exact a1
 split
 ·exact a2
 split
 ·exact a5
 split
 ·exact a7
 ·exact Ex _
end
def pv:Pr aD:=cE p8 fun c=>cE (yH (decide (c<=4))) fun _=>yK c
def Rx(c:Int):dx->av->Option (aD×dx×av):=FD fZ ⟨c,0,0,[]⟩ (SI c)
def Rw(c:Int)(t:dx)(o:av):Option (aD×dx×av):=(yP (decide (c<=4)) t o).bind fun u=>Rx c u.2.1 u.2.2
def aa4(t:dx)(o:av):Option (aD×dx×av):=(Ve t o).bind fun u=>Rw u.1 u.2.1 u.2.2
def afZ(x:Bool):((if x then(0:Int)else 120)==0)=x:=by cases x<;>rfl
def BZ(v:aD)(t:dx)(o:av):((kj v).bind fun r=>(dz t o (r==(0:Int))).bind fun t' =>some (v,t',o))=Ij v t o:=by
 rw [wL,bz,afZ];unfold Ij yP;cases dz t o (iM v)<;>rfl
def ac7{o:av}{q:Int×av}(h:dd o=some q):0<=i64.wrap q.1:=by
 unfold dd at h
 cases hw:df o 1 with
 |none=>rw [hw]at h;cases h
 |some w=>
  rw [hw]at h;cases h;rw [xq,kW];omega
def Vb(t:dx)(o:av):lN t o=aa4 t o:=by
 unfold lN aa4 Ve
 cases H:dd o with
 |none=>rfl
 |some r=>
  simp only [nq,bz];unfold Rw yP
  cases W:dz t r.2 (decide (i64.wrap r.1<=4))with
  |none=>rfl
  |some t1=>
   simp only [nq,bz];unfold Rx FD
   cases h3:fZ t1 r.2 with
   |none=>rfl
   |some c=>
    cases c with
    |false=>rfl
    |true=>
     simp only [bz,uc,jc,hX,gQ];unfold SI;generalize i64.wrap r.1=k;by_cases e1:(k==1)=true
     ·rw [bM e1,bM e1];unfold abl Ve
      cases dd r.2 with
      |none=>rfl
      |some q=>exact BZ _ _ _
     rw [bB e1,bB e1];by_cases e2:(k==2)=true
     ·rw [bM e2,bM e2];unfold aby KW
      cases eX r.2 with
      |none=>rfl
      |some q=>exact BZ _ _ _
     rw [bB e2,bB e2];by_cases e3:(k==3)=true
     ·rw [bM e3,bM e3];unfold aa5 Ve
      cases hq:dd r.2 with
      |none=>rfl
      |some q=>
       simp only [nq,bz];unfold XX yP
       cases dz t1 q.2 (decide (i64.wrap q.1<=40))with
       |none=>rfl
       |some t2=>
        simp only [nq,bz];unfold XY FD
        cases fZ t2 q.2 with
        |none=>rfl
        |some c=>
         cases c with
         |false=>exact BZ _ _ _
         |true=>
          simp only [bz,gQ];unfold Vu;rw [Int.toNat_of_nonneg (ac7 hq)]
          cases kO q.2 (i64.wrap q.1)with
          |none=>rfl
          |some bx=>exact BZ _ _ _
     rw [bB e3,bB e3];by_cases e4:(k==4)=true
     ·rw [bM e4,bM e4];unfold aa6 KW
      cases eX r.2 with
      |none=>rfl
      |some q=>
       simp only [nq,bz];unfold XW KW
       cases eX q.2 with
       |none=>rfl
       |some q2=>exact BZ _ _ _
     rw [bB e4,bB e4];exact BZ _ _ _
def MW{b:List Int}(V:b.length<=900000000)(N':qV b):Rd b lN pv:=by
 have a1: ∀c,Rd b (Rx c) (yK c):=fun c=>Mn (fun _ _ _=>PY) (fun _ _=>PZ) _ (Z8 V N' c);have a2: ∀c,Rd b (Rw c) (cE (yH (decide (c<=4))) fun _=>yK c):=fun c=>Rd.bind (g:=fun _=>Rx c) (D8 _) fun _=>a1 c;have a3:Rd b aa4 pv:=Rd.bind (g:=Rw) (Ry V N') a2;exact a3.congr Vb
end
section
def QV{α:Type}{xs ys:List α}(h:xs.length=ys.length):sw xs ys=ys:=by
 unfold sw;rw [h,yi (kE _),Nat.min_self,<-h,IV (kE _),vW]
def SK{b:List Int}(V:b.length<=900000000):w5 b=some (rd b 0 0):=by
 unfold w5;have h:zd (b.length:Int) (0:Int)=some (List.replicate b.length 0):=by
  unfold zd;rw [bM (by omega)];simp
 rw [h,bz,bz,QV (by simp)];rfl
def rj:av:=⟨⟨0,0⟩,[]⟩
def CD{b:List Int}(V:b.length<=900000000):xg b=some (⟨rj,(b.length:Int),false⟩,rd b 0 0):=by
 unfold xg;rw [SK V];rfl
def Jn{b:List Int}(V:b.length<=900000000):zI b=some (⟨rj,b,false⟩,rd b 0 0):=by
 unfold zI;rw [SK V];rfl
def OO{α:Type}(l:List Int)(p:Pr α)(q:α×Int×Int):Prop:=
 match p l with
 |some (v,rest)=> ∃k:Nat,k<=l.length/\q=(v,(k:Int),0)/\rest=l.drop k
 |none=>q.2.2≠0
def Tb{l:List Int}(hl:l.length<=900000000){v:aD}{t:dx}{o:av}(h:O9 l (pv l) v t o): ∃q,np t o v=some q/\OO l pv q:=by
 unfold O9 at h;unfold OO np
 cases hp:pv l with
 |none=>
  rw [hp]at h;obtain⟨_,k,y,rfl,W,h3⟩:=h;have h3:t.bad=true\/y≠0:=h3
  cases V:t.bad with
  |true=>exact⟨_,rfl,show(160:Int)≠0 by decide⟩
  |false=>
   have hy:y≠0:=by rcases h3 with h|h;rw [V]at h;cases h;exact h
   rw [bB (by simp),yy,bz,bM (by simpa using hy),bz];exact⟨_,rfl,hy⟩
 |some w=>
  rw [hp]at h;obtain⟨rfl,k,⟨g1,g2,rfl,g4⟩,g5⟩:=h;have g1:t.all=(l.length:Int):=g1;have g2:t.bad=false:=g2;rw [g2,bB (by simp),yy,bz,bB (by simp),B5 0 g4 (by omega),bz];refine⟨_,rfl,k,g4,?_,g5.symm⟩;rw [g1,kW];have:(l.length:Int)-((l.length-k:Nat):Int)=(k:Int):=by omega
  rw [this];have:((k:Int)+9223372036854775808)%18446744073709551616-9223372036854775808=(k:Int):=by omega
  simp [this]
def Bt{l:List Int}(hl:l.length<=900000000)(N':qV l): ∃q,s9 l=some q/\OO l pv q:=by
 unfold s9;rw [CD hl,bz];obtain⟨v,t,o,H,W⟩:=(MW hl N').ok 0 ⟨rj,(l.length:Int),false⟩ (rd l 0 0) ⟨rfl,rfl,rfl,by omega⟩;rw [H,bz];obtain⟨q,h3,h4⟩:=Tb hl W;rw [h3];exact⟨q,rfl,h4⟩
def Gu{b:List Int}(V:b.length<=900000000){r:bq}(h:r.all=b){k:Nat}(y:Int)(hk:k<=b.length):j4 r (rd b k y)=some (b.drop k):=by
 unfold j4;rw [B5 y hk (by omega),bz,h];have e:i64.wrap ((b.length:Int)-((b.length-k:Nat):Int))=(k:Int):=by rw [kW];omega
 rw [e];have:dr b (k:Int) (b.length:Int)=some (b.drop k):=by
  rw [oK hk (kE _),EK]
 rw [this];rfl
def Gt{b:List Int}(V:b.length<=900000000){α:Type}{p:Pr α}{q:α×Int×Int}{k:Nat}(hq:OO (b.drop k) p q):
  (∀r:bq,Ok b k r (rd b k 0)-> ∃r' o',iz r (rd b k 0) q.2.1 q.2.2=some (r',o')/\O9 b (p (b.drop k)) q.1 r' o')/\
  (∀(r:bq) (y:Int),k<=b.length->No b r (rd b k y)->(r.bad=true\/y≠0)-> ∃r' o',iz r (rd b k y) q.2.1 q.2.2=some (r',o')/\No b r' o'):=by
 unfold OO at hq;constructor
 ·intro r ⟨H,W,_,h4⟩;unfold iz O9
  cases hp:p (b.drop k)with
  |none=>
   rw [hp]at hq;rw [bM (by simpa using hq)];exact⟨_,_,rfl,H,k,0,rfl,h4,.inl rfl⟩
  |some w=>
   rw [hp]at hq;obtain⟨j,hj,rfl,hr⟩:=hq;rw [Ao]at hj;rw [bB (by simp),Mp 0 h4 V,bB (by simp),bB (by omega)];exact⟨_,_,rfl,rfl,k+j,⟨H,W,rfl,by omega⟩,by rw [hr,uH]⟩
 ·intro r y hk hn hy;unfold iz;split
  ·exact⟨_,_,rfl,hn.1,k,y,rfl,hk,.inl rfl⟩
  ·rename_i he
   cases hp:p (b.drop k)with
   |none=>rw [hp]at hq;exact absurd hq (by simpa using he)
   |some w=>
    rw [hp]at hq;obtain⟨j,hj,rfl,hr⟩:=hq;rw [Ao]at hj;rw [Mp y hk V];split
    ·exact⟨_,_,rfl,hn.1,k,y,rfl,hk,hy⟩
    ·rename_i h0;have hbad:r.bad=true:=hy.resolve_right h0;split
     ·exact⟨_,_,rfl,hn.1,k,7,rfl,hk,.inl hbad⟩
     ·exact⟨_,_,rfl,hn.1,k+j,0,rfl,by omega,.inl hbad⟩
def Ug{b:List Int}(V:b.length<=900000000)(N':qV b):Rd b kQ pv:=by
 refine⟨fun k r o hk=>?_,fun r o hn=>?_⟩
 ·obtain⟨H,W,rfl,h4⟩:=hk;obtain⟨q,g1,g2⟩:=Bt (l:=b.drop k) (by simp;omega) (ka N' k);obtain⟨r',o',g3,g4⟩:=(Gt V g2).1 r ⟨H,W,rfl,h4⟩;unfold kQ;rw [Gu V H 0 h4,bz,g1,bz,g3];exact⟨_,_,_,rfl,g4⟩
 ·have hn' :=hn;obtain⟨H,k,y,rfl,h4,h5⟩:=hn;obtain⟨q,g1,g2⟩:=Bt (l:=b.drop k) (by simp;omega) (ka N' k);obtain⟨r',o',g3,g4⟩:=(Gt V g2).2 r y h4 hn' h5;unfold kQ;rw [Gu V H y h4,bz,g1,bz,g3];exact⟨_,_,_,rfl,g4⟩
end
section
def yW{ρ:Type} [Ml ρ]{b:List Int}{α β:Type}{f:ρ->av->Option (α×ρ×av)}{p:Pr α}{g:α->ρ->av->Option (β×ρ×av)}{q:α->Pr β}(P:α->Prop)(hP: ∀r o x r' o',f r o=some (x,r',o')->P x)(hf:Rd b f p)(Y: ∀x,P x->Rd b (g x) (q x)):
  Rd b (fun r o=>(f r o).bind fun u=>g u.1 u.2.1 u.2.2) (cE p q):=by
 refine⟨fun k r o hk=>?_,fun r o hn=>?_⟩
 ·obtain⟨x,r1,o1,H,W⟩:=hf.ok k r o hk;have K:=hP _ _ _ _ _ H;rw [H,bz];unfold O9 at W;unfold cE
  cases hp:p (b.drop k)with
  |none=>
   rw [hp]at W;obtain⟨y,r2,o2,h3,h4⟩:=(Y x K).no r1 o1 W;exact⟨y,r2,o2,h3,h4⟩
  |some v=>
   rw [hp]at W;obtain⟨rfl,k1,h3,h4⟩:=W;obtain⟨y,r2,o2,h5,h6⟩:=(Y v.1 K).ok k1 r1 o1 h3;rw [h4]at h6;exact⟨y,r2,o2,h5,h6⟩
 ·obtain⟨x,r1,o1,H,W⟩:=hf.no r o hn;rw [H,bz];exact(Y x (hP _ _ _ _ _ H)).no r1 o1 W
def iT(x:Int):Prop:=0<=x/\x<=255
def CS{r r' :bq}{o o' :av}{x:Int}(h:n6 r o=some (x,r',o')):iT x:=by
 unfold n6 bv at h
 cases hq:dd o with
 |none=>rw [hq]at h;cases h
 |some q=>
  rw [hq]at h;cases h;unfold dd at hq
  cases hw:df o 1 with
  |none=>rw [hw]at hq;cases hq
  |some w=>
   rw [hw]at hq;cases hq;unfold iT;rw [xq,kW];omega
def RQ(N:Int)(r:bq)(o:av):Option (List Int×bq×av):=(nS r o N).map fun q=>(q.1,r,q.2)
def TX(r:bq)(o:av):Option (List Int×bq×av):=(jD r o).map fun q=>(q.1,r,q.2)
def RI(N:Int):Pr (List Int):=pl p8 N.toNat
def E2:Pr (List Int):=cE p8 RI
section
variable{b:List Int}(V:b.length<=900000000)(N':qV b)
include V N'
def Yj(N:Int)(hN:N<=65535):Rd b (RQ N) (RI N):=by
 have h:=Eb (qZ V N').toE (fun _ _ _=>Kc) (fun _ _=>Ke) N hN () trivial (L:=fun fu out x r o _=>(jE r N fu out x o).map fun q=>(q.1,r,q.2,())) (by
  intro fu out x r o e;cases e;simp only [jE];by_cases K:decide (x<N)=true
  ·simp only [K,gQ]
   cases eo r o with
   |none=>rfl
   |some c=>
    cases c with
    |false=>rfl
    |true=>
     unfold n6;simp only [bz,uc,jc,hX]
     cases bv r o with
     |none=>rfl
     |some q=>
      simp only [bz,nq];cases hU out [q.1]<;>rfl
  ·simp only [K];rfl)
 have e:(fun l=>(nu (fun(_:Unit) l=>(p8 l).map fun u=>((u.1,()),u.2)) N.toNat () l).map fun u=>(u.1.1,u.2))=RI N:=funext fun l=>Gz p8 N.toNat l;rw [e]at h;refine h.congr fun r o=>?_;unfold RQ nS;cases jE r N de [] 0 o<;>rfl
def VM:Rd b TX E2:=by
 have:=yW (g:=RQ) (q:=RI) iT (fun _ _ _ _ _=>CS) (qZ V N') fun x K=>Yj V N' x (by unfold iT at K;omega);refine this.congr fun r o=>?_;unfold TX jD n6 RQ
 cases bv r o with
 |none=>rfl
 |some q=>
  simp only [bz,nq];cases nS r q.2 q.1<;>rfl
end
def Gs(t:List Int)(D:t.length<=900000000):pR t=some (match t.getLast? with|none=>(-1,t)|some x=>(x,t.dropLast)):=by
 unfold pR;rcases List.eq_nil_or_concat t with rfl|⟨l,x,rfl⟩
 ·rfl
 ·simp only [List.concat_eq_append]at*;rw [bB (by simp;omega)];have e:i64.wrap ((((l++[x]).length:Nat):Int)-1)=(l.length:Int):=by
   rw [kW];simp at D ⊢;omega
  rw [e,eU,Ap (kE _)];simp only [Aa,JA,bz];rw [show(0:Int)=((0:Nat):Int)from rfl,oK (mT _) (by simp),bz];simp
def zB:Nat->List Int->Option (Int×Int×List Int)
 |0,t=>some (-1,-1,t)
 |1,t=>match t.getLast? with|none=>none|some x=>some (x,-1,t.dropLast)
 |_+2,t=>match t.getLast? with|none=>none|some y=>match t.dropLast.getLast? with|none=>none|some x=>some (x,y,t.dropLast.dropLast)
end
section
section
variable{ρ:Type} [Ml ρ]{b:List Int}{α β E:Type}{I:Nat->E->Prop}
def y8.congr{f g:E->ρ->av->Option (α×ρ×av×E)}{p:E->Pr (α×E)}(h:y8 b I f p)(e: ∀j e r o,I j e->g e r o=f e r o):y8 b I g p:=
 ⟨fun j x k r o hj hi hk=>by rw [e j x r o hi];exact h.ok j x k r o hj hi hk,fun j x r o hj hi hn=>by rw [e j x r o hi];exact h.no j x r o hj hi hn⟩
def qR{f:ρ->av->Option (α×ρ×av)}{p:Pr α}{g:α->E->ρ->av->Option (β×ρ×av×E)}{q:α->E->Pr (β×E)}(hf:Rd b f p)(Y: ∀x,y8 b I (g x) (q x)):
  y8 b I (fun e r o=>(f r o).bind fun u=>g u.1 e u.2.1 u.2.2) (fun e=>cE p (fun x=>q x e)):=by
 refine⟨fun j e k r o hj hi hk=>?_,fun j e r o hj hi hn=>?_⟩
 ·obtain⟨x,r1,o1,H,W⟩:=hf.ok k r o hk;rw [H,bz];unfold O9 at W;unfold cE
  cases hp:p (b.drop k)with
  |none=>
   rw [hp]at W;obtain⟨y,r2,o2,e2,h3,h3',h4⟩:=(Y x).no j e r1 o1 hj hi W;exact⟨y,r2,o2,e2,h3,h3',h4⟩
  |some v=>
   rw [hp]at W;obtain⟨rfl,k1,h3,h4⟩:=W;obtain⟨y,r2,o2,e2,h5,h5',h6⟩:=(Y v.1).ok j e k1 r1 o1 hj hi h3;rw [h4]at h6;exact⟨y,r2,o2,e2,h5,h5',h6⟩
 ·obtain⟨x,r1,o1,H,W⟩:=hf.no r o hn;rw [H,bz];exact(Y x).no j e r1 o1 hj hi W
def wv{f g:E->ρ->av->Option (α×ρ×av×E)}{p q:E->Pr (α×E)}(c:Bool)(hf:y8 b I f p)(Y:y8 b I g q):
  y8 b I (fun e r o=>if c=true then f e r o else g e r o) (fun e=>if c=true then p e else q e):=by
 cases c with
 |true=>exact hf
 |false=>exact Y
end
def Tp(j:Nat)(e:List Int×Int):Prop:=e.2=(j:Int)/\e.1.length<=j/\ ∀x∈e.1,0<=x
def Iv{B:Bool}{x:Int}(h:0<=x):(B||(decide (x<(0:Int))))=B:=by
 rw [yh (by omega),Fw]
def Iu{B:Bool}:(B||(decide ((-1:Int)<(0:Int))))=true:=by
 rw [Fx (by omega),Fv]
def NI(r:bq)(o:av){j:Nat}(hj:j<=70000){t:List Int}{a:Int}(hi:Tp j (t,a))(n:Nat)(hn:n<=2):
  ∃L R r' t',dD r o t n a=some (L,R,r',t')/\t'.length<=j+1/\(∀x∈t',0<=x)/\
   (match zB n t with|some u=>L=u.1/\R=u.2.1/\r' =r/\t' =u.2.2++[a]|none=>r' ={r with bad:=true}):=by
 obtain⟨H,W,h3⟩:=hi;simp only at H W h3;subst H;have push: ∀l:List Int,l.length<=j->(∀x∈l,0<=x)->hU l [(j:Int)]=some (l++[(j:Int)])/\(l++[(j:Int)]).length<=j+1/\ ∀x∈l++[(j:Int)],0<=x:=by
  intro l hl hp;refine⟨bZ (by simp;omega),by simp;omega,fun x K=>?_⟩;rcases An.1 K with K|K
  ·exact hp x K
  ·rw [EN.1 K];omega
 have k2: ∀(L R:Int) (l:List Int) (r:bq),l.length<=j->(∀x∈l,0<=x)->kK (j:Int) R L l r=some (L,R,r,l++[(j:Int)]):=by
  intro L R l r hl hp;unfold kK;rw [(push l hl hp).1];rfl
 have nn: ∀l:List Int,(∀x∈l,0<=x)-> ∀x,l.getLast? =some x->0<=x:=fun l hp x K=>hp x (List.mem_of_getLast? K);have dn: ∀l:List Int,(∀x∈l,0<=x)-> ∀x∈l.dropLast,0<=x:=fun l hp x K=>hp x ((List.dropLast_sublist l).subset K);unfold dD nm
 match n,hn with
 |0,_=>
  rw [bB (by decide),bB (by decide),k2 _ _ _ _ W h3];exact⟨_,_,_,_,rfl,(push t W h3).2.1,(push t W h3).2.2,rfl,rfl,rfl,rfl⟩
 |1,_=>
  rw [bB (by decide),bM (by decide),Gs t (by omega),bz]
  cases Y:t.getLast? with
  |none=>
   simp only;rw [k2 _ _ _ _ W h3,Iu];refine⟨_,_,_,_,rfl,(push t W h3).2.1,(push t W h3).2.2,?_⟩;simp only [zB,Y]
  |some x=>
   simp only;rw [k2 _ _ _ _ (by simp;omega) (dn t h3),Iv (nn t h3 x Y)];refine⟨_,_,_,_,rfl,(push t.dropLast (by simp;omega) (dn t h3)).2.1,(push t.dropLast (by simp;omega) (dn t h3)).2.2,?_⟩;simp only [zB,Y];exact⟨trivial,trivial,trivial,trivial⟩
 |2,_=>
  rw [bM (by decide),Gs t (by omega),bz]
  cases Y:t.getLast? with
  |none=>
   simp only;rw [bM (by decide),Gs t (by omega),bz,Y];simp only;rw [k2 _ _ _ _ W h3,Iu];refine⟨_,_,_,_,rfl,(push t W h3).2.1,(push t W h3).2.2,?_⟩;simp only [zB,Y]
  |some y=>
   simp only;rw [bM (by decide),Gs t.dropLast (by simp;omega),bz,Iv (nn t h3 y Y)]
   cases hg2:t.dropLast.getLast? with
   |none=>
    simp only;rw [k2 _ _ _ _ (by simp;omega) (dn t h3),Iu];refine⟨_,_,_,_,rfl,(push t.dropLast (by simp;omega) (dn t h3)).2.1,(push t.dropLast (by simp;omega) (dn t h3)).2.2,?_⟩;simp only [zB,Y,hg2]
   |some x=>
    simp only;rw [k2 _ _ _ _ (by simp;omega) (dn _ (dn t h3)),Iv (nn _ (dn t h3) x hg2)];refine⟨_,_,_,_,rfl,(push t.dropLast.dropLast (by simp;omega) (dn _ (dn t h3))).2.1,(push t.dropLast.dropLast (by simp;omega) (dn _ (dn t h3))).2.2,?_⟩;simp only [zB,Y,hg2];exact⟨trivial,trivial,trivial,trivial⟩
def sK{α:Type}(n:Nat)(h:Int->Int->α)(e:List Int×Int)(r:bq)(o:av):Option (α×bq×av×List Int×Int):=
 (dD r o e.1 n e.2).bind fun u=>some (h u.1 u.2.1,u.2.2.1,o,u.2.2.2,i64.wrap (e.2+1))
def qy{α:Type}(n:Nat)(h:Int->Int->α)(e:List Int×Int):Pr (α×List Int×Int):=fun l=>(zB n e.1).map fun u=>((h u.1 u.2.1,u.2.2++[e.2],e.2+1),l)
def rn{b:List Int}{α:Type}(n:Nat)(hn:n<=2)(h:Int->Int->α):y8 b Tp (sK n h) (qy n h):=by
 refine⟨fun j e k r o hj hi hk=>?_,fun j e r o hj hi hN=>?_⟩
 ·obtain⟨t,a⟩:=e;obtain⟨L,R,r',t',H,W,h3,h4⟩:=NI r o hj hi n hn;have ha:a=(j:Int):=hi.1;have hw:i64.wrap (a+1)=a+1:=by rw [kW];omega
  unfold sK qy;simp only;rw [H,bz];refine⟨_,_,_,_,rfl,⟨by simp only;rw [hw,ha];omega,W,h3⟩,?_⟩
  cases hq:zB n t with
  |none=>
   rw [hq]at h4;simp only at h4;subst h4;obtain⟨g1,g2,g3,g4⟩:=hk;exact⟨g1,k,0,g3,g4,.inl rfl⟩
  |some u=>
   rw [hq]at h4;obtain⟨rfl,rfl,rfl,rfl⟩:=h4;exact⟨by simp only;rw [hw],k,hk,rfl⟩
 ·obtain⟨t,a⟩:=e;obtain⟨L,R,r',t',H,W,h3,h4⟩:=NI r o hj hi n hn;have ha:a=(j:Int):=hi.1;have hw:i64.wrap (a+1)=a+1:=by rw [kW];omega
  unfold sK;simp only;rw [H,bz];refine⟨_,_,_,_,rfl,⟨by simp only;rw [hw,ha];omega,W,h3⟩,?_⟩;have hr:r' =r\/r' ={r with bad:=true}:=by
   cases hq:zB n t with
   |none=>rw [hq]at h4;exact .inr h4
   |some u=>rw [hq]at h4;exact .inl h4.2.2.1
  obtain⟨g1,k,y,g2,g3,g4⟩:=hN;rcases hr with rfl|rfl
  ·exact⟨g1,k,y,g2,g3,g4⟩
  ·exact⟨g1,k,y,g2,g3,.inl rfl⟩
end
section
def ar(tag:Int):Nat:=if tag==1||tag==2 then 0 else if 12<=tag then 2 else 1
def Xj(x:Int):ar x<=2:=by
 unfold ar;repeat' split
 all_goals omega
def Xi(x:Int):tQ x=some (ar x:Int):=by
 unfold tQ ar;by_cases h:(x==1||x==2)=true
 ·rw [bM h,bM h];rfl
 ·rw [bB h,bB h];by_cases W:(12:Int)<=x
  ·rw [bM (by simpa using W),bM W];rfl
  ·rw [bB (by simpa using W),bB W];rfl
def vZ:aD:=⟨0,0,0,[]⟩
def WL(e:List Int×Int)(r:bq)(o:av):Option (bw×bq×av×List Int×Int):=
 (n6 r o).bind fun u=>if(u.1==2)=true then(n6 u.2.1 u.2.2).bind fun w=>sK (ar u.1) (fun L R=>⟨u.1,L,R,w.1,vZ⟩) e w.2.1 w.2.2
  else if(u.1==1)=true then(kQ u.2.1 u.2.2).bind fun w=>sK (ar u.1) (fun L R=>⟨u.1,L,R,0,w.1⟩) e w.2.1 w.2.2
  else sK (ar u.1) (fun L R=>⟨u.1,L,R,0,vZ⟩) e u.2.1 u.2.2
def pE(e:List Int×Int):Pr (bw×List Int×Int):=
 cE p8 fun x=>if(x==2)=true then cE p8 fun c=>qy (ar x) (fun L R=>⟨x,L,R,c,vZ⟩) e
  else if(x==1)=true then cE pv fun v=>qy (ar x) (fun L R=>⟨x,L,R,0,v⟩) e
  else qy (ar x) (fun L R=>⟨x,L,R,0,vZ⟩) e
def HD(N:Int):Pr (List bw):=fun l=>(nu pE N.toNat ([],0) l).map fun u=>(u.1.1,u.2)
def wX:Pr bQ:=cE Ya fun n=>iH bQ.mk (HD n)
def KQ(x:Int):Prop:=0<=x/\x<=65535
def MZ{ρ:Type}{r r' :ρ}{o o' :av}{x:Int}(h:S5 r o=some (x,r',o')):KQ x:=by
 unfold S5 jC at h
 cases hw:df o 2 with
 |none=>rw [hw]at h;cases h
 |some w=>
  rw [hw]at h;cases h;unfold KQ;rw [wrap_u16,kW];omega
section
variable{b:List Int}(V:b.length<=900000000)(N':qV b)
include V N'
def WK:y8 b Tp WL pE:=by
  have hs:=qZ V N';have H:=qR (I:=Tp) hs fun x=>wv (b:=b) (x==2)
    (qR hs fun c=>rn (b:=b) (ar x) (Xj x) (fun L R=>(⟨x,L,R,c,vZ⟩:bw)))
    (wv (x==1) (qR (Ug V N') fun v=>rn (b:=b) (ar x) (Xj x) (fun L R=>(⟨x,L,R,0,v⟩:bw)))
      (rn (b:=b) (ar x) (Xj x) (fun L R=>(⟨x,L,R,0,vZ⟩:bw))))
  refine H.congr fun j e r o _=>?_;rfl
omit V N' in
def WM(e:List Int×Int)(r:bq)(o:av):oz r o e.1 e.2=WL e r o:=by
 unfold oz WL n6 sK
 cases bv r o with
 |none=>rfl
 |some u=>
  simp only [bz,nq,Xi];by_cases h:(u.1==2)=true
  ·rw [bM h,bM h]
   cases bv r u.2 with
   |none=>rfl
   |some w=>
    simp only [bz,nq];cases dD r w.2 e.1 (ar u.1) e.2<;>rfl
  ·rw [bB h,bB h];by_cases h:(u.1==1)=true
   ·rw [bM h,bM h]
   ·rw [bB h,bB h];cases dD r u.2 e.1 (ar u.1) e.2<;>rfl
def Qc(N:Int)(r:bq)(o:av):Option (List bw×bq×av):=(lh r o N [] 0).bind fun q=>some (q.1,q.2.1,q.2.2.1)
def VO(N:Int)(hN:N<=65535):Rd b (Qc N) (HD N):=
 Eb (WK V N') (fun _ _ _=>Kc) (fun _ _=>Ke) N hN ([],0) ⟨rfl,kE 0,by simp⟩ (L:=fun fu out x r o e=>iC N fu out x e.2 e.1 r o) (by
  intro fu out x r o e;simp only [iC,WM];rfl)
def L9:Rd b iA wX:=by
 have:=yW (g:=fun n r o=>(Qc n r o).bind fun u=>some (bQ.mk u.1,u.2.1,u.2.2)) KQ (fun _ _ _ _ _=>MZ) (Vh V N') fun n hn=>(VO V N' n hn.2).map bQ.mk;refine this.congr fun r o=>?_;unfold iA S5 Qc
 cases jC o with
 |none=>rfl
 |some q=>
  simp only [bz,nq];cases lh r q.2 (i64.wrap q.1) [] 0<;>rfl
def PU:Pr f9:=cE p8 fun f=>iH (f9.mk f) wX
def PM:Pr jJ:=cE p8 fun c=>iH (jJ.mk c) yI
def ac0:Rd b sd PU:=by
 refine((qZ V N').bind fun f=>(L9 V N').map (f9.mk f)).congr fun r o=>?_;unfold sd n6;cases bv r o<;>rfl
def abk:Rd b sb PM:=by
 refine((qZ V N').bind fun f=>(GE V N').map (jJ.mk f)).congr fun r o=>?_;unfold sb n6;cases bv r o<;>rfl
omit V N' in
def zD{α:Type}{f:bq->av->Option (α×bq×av)}{p:Pr α}(hf:Rd b f p)(N:Int)(hN:N<=65535){L:Nat->List α->Int->bq->av->Option (List α×bq×av)}
  (hL: ∀fu out x r o,L (fu+1) out x r o=if decide (x<N)=true then(eo r o).bind fun c=>if(!c)=true then some (out,r,o)else(f r o).bind fun u=>(hU out [u.1]).bind fun V'=>L fu V' (i64.wrap (x+1)) u.2.1 u.2.2 else some (out,r,o)):
  Rd b (fun r o=>L de [] 0 r o) (pl p N.toNat):=by
 have h:=Eb hf.toE (fun _ _ _=>Kc) (fun _ _=>Ke) N hN () trivial (L:=fun fu out x r o _=>(L fu out x r o).map fun q=>(q.1,q.2.1,q.2.2,())) (by
  intro fu out x r o e;cases e;simp only [hL];by_cases K:decide (x<N)=true
  ·simp only [K,gQ]
   cases eo r o with
   |none=>rfl
   |some c=>
    cases c with
    |false=>rfl
    |true=>
     simp only [bz,uc,jc,hX]
     cases f r o with
     |none=>rfl
     |some q=>
      simp only [bz,nq];cases hU out [q.1]<;>rfl
  ·simp only [K];rfl)
 have e:(fun l=>(nu (fun(_:Unit) l=>(p l).map fun u=>((u.1,()),u.2)) N.toNat () l).map fun u=>(u.1.1,u.2))=pl p N.toNat:=funext fun l=>Gz p N.toNat l;rw [e]at h;refine h.congr fun r o=>?_;cases L de [] 0 r o<;>rfl
def aab(N:Int)(hN:N<=65535):Rd b (fun r o=>mB r o N) (pl PU N.toNat):=
 zD (ac0 V N') N hN (L:=kx N) fun _ _ _ _ _=>rfl
def WJ(N:Int)(hN:N<=65535):Rd b (fun r o=>lM r o N) (pl wX N.toNat):=
 zD (L9 V N') N hN (L:=j6 N) fun _ _ _ _ _=>rfl
def Yc(N:Int)(hN:N<=65535):Rd b (fun r o=>my r o N) (pl PM N.toNat):=
 zD (abk V N') N hN (L:=kw N) fun _ _ _ _ _=>rfl
end
end
section
def yq{α:Type}(p:Pr α):Pr (List α):=cE p8 fun n=>pl p n.toNat
def Uq{α:Type}(f:bq->av->Int->Option (List α×bq×av))(r:bq)(o:av):Option (List α×bq×av):=(n6 r o).bind fun n=>f n.2.1 n.2.2 n.1
section
variable{b:List Int}(V:b.length<=900000000)(N':qV b)
include V N'
def Mf{α:Type}{p:Pr α}{f:bq->av->Int->Option (List α×bq×av)}(h: ∀N:Int,N<=65535->Rd b (fun r o=>f r o N) (pl p N.toNat)):Rd b (Uq f) (yq p):=
 yW (g:=fun n r o=>f r o n) (q:=fun n=>pl p n.toNat) iT (fun _ _ _ _ _=>CS) (qZ V N') fun x K=>h x (by unfold iT at K;omega)
end
def Jj(x:Int):Int:=i64.wrap (i64.wrap x-1)
def Ph(x:Int)(e:List Int×Int)(r:bq)(o:av):Option (al×bq×av×List Int×Int):=
 if(x==1||x==9)=true then(n6 r o).bind fun t=>(TX t.2.1 t.2.2).bind fun ks=>sK 0 (fun L R=>⟨x,L,R,t.1,ks.1,false,⟨[]⟩,[],[],[],[],0⟩) e ks.2.1 ks.2.2
 else if(x==2)=true then(gO r o).bind fun f=>(iA f.2.1 f.2.2).bind fun c=>sK 2 (fun L R=>⟨x,L,R,0,[],f.1,c.1,[],[],[],[],0⟩) e c.2.1 c.2.2
 else if(x==3)=true then(iA r o).bind fun c=>sK 1 (fun L R=>⟨x,L,R,0,[],false,c.1,[],[],[],[],0⟩) e c.2.1 c.2.2
 else if(x==4||x==10||x==11)=true then(TX r o).bind fun ks=>(Uq mB ks.2.1 ks.2.2).bind fun a=>sK 1 (fun L R=>⟨x,L,R,0,[],false,⟨[]⟩,ks.1,a.1,[],[],0⟩) e a.2.1 a.2.2
 else if(x==5)=true then(Uq lM r o).bind fun a=>sK 1 (fun L R=>⟨x,L,R,0,[],false,⟨[]⟩,[],[],a.1,[],0⟩) e a.2.1 a.2.2
 else if(x==8)=true then(Uq my r o).bind fun a=>(Vg a.2.1 a.2.2).bind fun l=>sK 1 (fun L R=>⟨x,L,R,0,[],false,⟨[]⟩,[],[],[],a.1,Jj l.1⟩) e l.2.1 l.2.2
 else if(x==7)=true then sK 2 (fun L R=>⟨x,L,R,0,[],false,⟨[]⟩,[],[],[],[],0⟩) e r o
 else sK 1 (fun L R=>⟨x,L,R,0,[],false,⟨[]⟩,[],[],[],[],0⟩) e r o
def HE(x:Int)(e:List Int×Int):Pr (al×List Int×Int):=
 if(x==1||x==9)=true then cE p8 fun t=>cE E2 fun ks=>qy 0 (fun L R=>⟨x,L,R,t,ks,false,⟨[]⟩,[],[],[],[],0⟩) e
 else if(x==2)=true then cE yI fun f=>cE wX fun c=>qy 2 (fun L R=>⟨x,L,R,0,[],f,c,[],[],[],[],0⟩) e
 else if(x==3)=true then cE wX fun c=>qy 1 (fun L R=>⟨x,L,R,0,[],false,c,[],[],[],[],0⟩) e
 else if(x==4||x==10||x==11)=true then cE E2 fun ks=>cE (yq PU) fun a=>qy 1 (fun L R=>⟨x,L,R,0,[],false,⟨[]⟩,ks,a,[],[],0⟩) e
 else if(x==5)=true then cE (yq wX) fun a=>qy 1 (fun L R=>⟨x,L,R,0,[],false,⟨[]⟩,[],[],a,[],0⟩) e
 else if(x==8)=true then cE (yq PM) fun a=>cE X9 fun l=>qy 1 (fun L R=>⟨x,L,R,0,[],false,⟨[]⟩,[],[],[],a,Jj l⟩) e
 else if(x==7)=true then qy 2 (fun L R=>⟨x,L,R,0,[],false,⟨[]⟩,[],[],[],[],0⟩) e
 else qy 1 (fun L R=>⟨x,L,R,0,[],false,⟨[]⟩,[],[],[],[],0⟩) e
def Pg(e:List Int×Int)(r:bq)(o:av):Option (al×bq×av×List Int×Int):=(n6 r o).bind fun u=>Ph u.1 e u.2.1 u.2.2
def J2(e:List Int×Int):Pr (al×List Int×Int):=cE p8 fun x=>HE x e
def Wk(e:List Int×Int)(r:bq)(o:av):oy r o e.1 e.2=Pg e r o:=by
 unfold oy uu Pg n6
 cases bv r o with
 |none=>rfl
 |some u=>
  simp only [bz,nq];obtain⟨x,o1⟩:=u;simp only;unfold Ph nQ lB Uq n6 TX Vg sK Jj;cases H:(x==1)<;>cases h9:(x==9)<;>simp only [Fv,Fw,Az,ta,gQ,jc,hX,Dq,bz,Dw,Dx,Int.ofNat_zero,Int.natCast_zero]<;>try rfl
  cases W:(x==2)<;>simp only [Fv,Fw,Az,ta,gQ,jc,hX,Dq,bz,Dw,Dx]<;>try rfl
  cases h3:(x==3)<;>simp only [Fv,Fw,Az,ta,gQ,jc,hX,Dq,bz,Dw,Dx]<;>try rfl
  cases h4:(x==4)<;>cases h10:(x==10)<;>cases h11:(x==11)<;>simp only [Fv,Fw,Az,ta,gQ,jc,hX,Dq,bz,Dw,Dx]<;>try rfl
  cases h5:(x==5)<;>simp only [Fv,Fw,Az,ta,gQ,jc,hX,Dq,bz,Dw,Dx]<;>try rfl
  cases h8:(x==8)<;>simp only [Fv,Fw,Az,ta,gQ,jc,hX,Dq,bz,Dw,Dx]<;>try rfl
  cases h7:(x==7)<;>simp only [Fv,Fw,Az,ta,gQ,jc,hX,Dq,bz,Dw,Dx]<;>try rfl
section
variable{b:List Int}(V:b.length<=900000000)(N':qV b)
include V N'
def SZ(x:Int):y8 b Tp (Ph x) (HE x):=by
  have hs:=qZ V N';have hn:=VM V N';have he:=L9 V N';have:=wv (b:=b) (I:=Tp) (x==1||x==9) (qR hs fun t=>qR hn fun ks=>rn 0 (by omega) (fun L R=>(⟨x,L,R,t,ks,false,⟨[]⟩,[],[],[],[],0⟩:al)))
    (wv (x==2) (qR (GE V N') fun f=>qR he fun c=>rn 2 (by omega) (fun L R=>(⟨x,L,R,0,[],f,c,[],[],[],[],0⟩:al)))
    (wv (x==3) (qR he fun c=>rn 1 (by omega) (fun L R=>(⟨x,L,R,0,[],false,c,[],[],[],[],0⟩:al)))
    (wv (x==4||x==10||x==11) (qR hn fun ks=>qR (Mf V N' (aab V N')) fun a=>rn 1 (by omega) (fun L R=>(⟨x,L,R,0,[],false,⟨[]⟩,ks,a,[],[],0⟩:al)))
    (wv (x==5) (qR (Mf V N' (WJ V N')) fun a=>rn 1 (by omega) (fun L R=>(⟨x,L,R,0,[],false,⟨[]⟩,[],[],a,[],0⟩:al)))
    (wv (x==8) (qR (Mf V N' (Yc V N')) fun a=>qR (Vf V N') fun l=>rn 1 (by omega) (fun L R=>(⟨x,L,R,0,[],false,⟨[]⟩,[],[],[],a,Jj l⟩:al)))
    (wv (x==7) (rn 2 (by omega) (fun L R=>(⟨x,L,R,0,[],false,⟨[]⟩,[],[],[],[],0⟩:al)))
      (rn 1 (by omega) (fun L R=>(⟨x,L,R,0,[],false,⟨[]⟩,[],[],[],[],0⟩:al)))))))))
  exact this
def SY:y8 b Tp Pg J2:=qR (qZ V N') fun x=>SZ V N' x
def DY(N:Int):Pr (List al):=fun l=>(nu J2 N.toNat ([],0) l).map fun u=>(u.1.1,u.2)
def LD(r:bq)(o:av)(N:Int):Option (List al×bq×av):=(ol r o N [] 0).bind fun q=>some (q.1,q.2.1,q.2.2.1)
def T6(N:Int)(hN:N<=65535):Rd b (fun r o=>LD r o N) (DY N):=
 Eb (SY V N') (fun _ _ _=>Kc) (fun _ _=>Ke) N hN ([],0) ⟨rfl,kE 0,by simp⟩ (L:=fun fu out x r o e=>iB N fu out x e.2 e.1 r o) (by
  intro fu out x r o e;simp only [iB,Wk];rfl)
def NF:Pr dl:=cE p8 fun a=>cE p8 fun w=>cE E2 fun cs=>cE p8 fun n=>iH (fun ns=>dl.mk ns a w cs) (DY n)
def YA:Rd b qN NF:=by
 have hs:=qZ V N';have:=hs.bind fun a=>hs.bind fun w=>(VM V N').bind fun cs=>yW (g:=fun n r o=>(LD r o n).bind fun u=>some (dl.mk u.1 a w cs,u.2.1,u.2.2)) iT (fun _ _ _ _ _=>CS) hs fun n hn=>(T6 V N' n (by unfold iT at hn;omega)).map fun ns=>dl.mk ns a w cs;refine this.congr fun r o=>?_;unfold qN n6 TX LD;simp only [Dq,bz,Dw,Dx]
def Wj(N:Int)(hN:N<=65535):Rd b (fun r o=>oV r o N) (pl NF N.toNat):=
 zD (YA V N') N hN (L:=j5 N) fun _ _ _ _ _=>rfl
def Ny:Pr iG:=iH iG.mk (yq NF)
def X6:Rd b qM Ny:=by
 refine((Mf V N' (Wj V N')).map iG.mk).congr fun r o=>?_;unfold qM Uq n6;simp only [Dq,bz,Dw,Dx]
end
end
section
def WQ{b:List Int}(V:b.length<=900000000){k:Nat}{r:bq}{o:av}(h:Ok b k r o):kR r o=some (b.drop k==[]):=by
 unfold kR;rw [Kc h,bz,bM rfl];obtain⟨_,_,rfl,h4⟩:=h;rw [B5 0 h4 (by omega),bz];congr 1;by_cases hk:k=b.length
 ·subst hk;simp
 ·have H:b.drop k≠[]:=by
   intro hc;have:=congrArg List.length hc;rw [Ao]at this;simp at this;omega
  have W:((b.length-k:Nat):Int)≠0:=by omega
  rw [show(b.drop k==[])=false from by simpa using H];simpa using W
def WR{b:List Int}{r:bq}{o:av}(h:No b r o):kR r o=some false:=by
 unfold kR;rw [Ke h,bz,bB (by simp)]
end
section
def Iq(q t:Int): ∀k m,k<=m->gc (q+t*2^(8*m)) k=gc q k
 |0,_,_=>rfl
 |k+1,m,h=>by
  unfold gc;rw [Iq q t k m (by omega)];congr 1;obtain⟨d,rfl⟩: ∃d,m=k+1+d:=⟨m-(k+1),by omega⟩;have e:(2:Int)^(8*(k+1+d))=(256*2^(8*d))*2^(8*k):=by
   rw [show 8*(k+1+d)=8+8*d+8*k from by omega,Int.pow_add,Int.pow_add];rfl
  have hp:(0:Int)<2^(8*k):=Int.pow_pos (by omega);rw [e,<-Int.mul_assoc,JB _ (by omega),JB _ (by omega),Int.add_mul_ediv_right _ _ (by omega),xq,xq,Int.mul_left_comm,Int.add_mul_emod_self_left]
def Ky: ∀l:List Int,qV l->gc (bn l) l.length=l/\0<=bn l/\bn l<2^(8*l.length)
 |[],_=>⟨rfl,by simp [bn],by simp [bn]⟩
 |c::l,h=>by
  obtain⟨⟨n,H,rfl⟩,W⟩:=pV h;obtain⟨g1,g2,g3⟩:=Ky l W;have hp:(0:Int)<2^(8*l.length):=Int.pow_pos (by omega);have e:bn ((n:Int)::l)=bn l+(n:Int)*2^(8*l.length):=by
   show(n:Int)*256^l.length+bn l=_;rw [show(256:Int)=2^8 from rfl,<-Int.pow_mul];omega
  refine⟨?_,?_,?_⟩
  ·rw [e,jl,gc,Iq _ _ _ _ (kE _),g1,JB _ (by omega),Int.add_mul_ediv_right _ _ (by omega),Int.ediv_eq_zero_of_lt g2 g3,xq];congr 1;omega
  ·rw [e];have:=Int.mul_nonneg (show(0:Int)<=n by omega) (Int.le_of_lt hp);omega
  ·rw [e,jl,show 8*(l.length+1)=8*l.length+8 from by omega,Int.pow_add];have:(n:Int)*2^(8*l.length)<=255*2^(8*l.length):=Int.mul_le_mul_of_nonneg_right (by omega) (Int.le_of_lt hp);omega
def bys(l:List Int):Prop:=qV l/\l.length<=30000
def OK{l:List Int}(h:bys l)(n:Nat):bys (l.drop n):=⟨ka h.1 n,by have:=h.2;simp;omega⟩
def lj{α:Type}(p:Pr α)(enc:α->List Int)(good:α->Prop):Prop:= ∀l x r,bys l->p l=some (x,r)->l=enc x++r/\good x/\bys r
def lj.size{α:Type}{p:Pr α}{enc:α->List Int}{good:α->Prop}(h:lj p enc good):lj p enc (fun x=>good x/\(enc x).length<=30000):=by
 intro l x r hl K;obtain⟨g1,g2,g3⟩:=h l x r hl K;refine⟨g1,⟨g2,?_⟩,g3⟩;have:=hl.2;rw [g1,nY]at this;omega
def lj.bind{α β:Type}{p:Pr α}{q:α->Pr β}{e1:α->List Int}{P1:α->Prop}{e2:α->β->List Int}{P2:α->β->Prop}{enc:β->List Int}{good:β->Prop}(H:lj p e1 P1)(W: ∀x,P1 x->lj (q x) (e2 x) (P2 x))(h3: ∀x y,P1 x->P2 x y->enc y=e1 x++e2 x y/\good y):lj (cE p q) enc good:=by
 intro l y r hl h;unfold cE at h
 cases hp:p l with
 |none=>rw [hp]at h;cases h
 |some u=>
  rw [hp,bz]at h;obtain⟨g1,g2,g3⟩:=H l u.1 u.2 hl hp;obtain⟨g4,g5,g6⟩:=W u.1 g2 u.2 y r g3 h;obtain⟨g7,g8⟩:=h3 u.1 y g2 g5;exact⟨by rw [g1,g4,g7,jR],g8,g6⟩
def lj.map{α β:Type}{p:Pr α}{f:α->β}{e1:α->List Int}{P1:α->Prop}{enc:β->List Int}{good:β->Prop}(H:lj p e1 P1)(h3: ∀x,P1 x->enc (f x)=e1 x/\good (f x)):lj (iH f p) enc good:=by
 intro l y r hl h;unfold iH at h
 cases hp:p l with
 |none=>rw [hp]at h;cases h
 |some u=>
  rw [hp]at h;cases h;obtain⟨g1,g2,g3⟩:=H l u.1 u.2 hl hp;obtain⟨g7,g8⟩:=h3 u.1 g2;exact⟨by rw [g7];exact g1,g8,g3⟩
def Iy{α:Type}(x:α){enc:α->List Int}{good:α->Prop}(H:enc x=[])(W:good x):lj (fun l=>some (x,l)) enc good:=by
 intro l y r hl h;cases h;exact⟨by rw [H];rfl,W,hl⟩
def lj.need{c:Bool}:lj (yH c) (fun _=>[]) (fun _=>c=true):=by
 intro l y r hl h;unfold yH at h;split at h
 ·cases h;rename_i hc;exact⟨rfl,hc,hl⟩
 ·cases h
def yo(n:Nat):lj (pw n) (fun x=>gc x n) (fun x=>0<=x/\x<2^(8*n)):=by
 intro l x r hl h;unfold pw at h;split at h
 ·cases h
 ·rename_i hn;cases h;have hlen:(l.take n).length=n:=by simp;omega
  obtain⟨g1,g2,g3⟩:=Ky (l.take n) (pU hl.1 n);rw [hlen]at g1 g3;exact⟨by simp only [g1,vX],⟨g2,g3⟩,OK hl n⟩
def ne:lj p8 (fun x=>[u8.wrap x]) iT:=
 (yo 1).map fun x K=>by
  obtain⟨H,W⟩:=K;have W:x<256:=W;have e:i64.wrap (u8.wrap x)=x:=by rw [xq,kW];omega
  rw [e];refine⟨?_,H,by omega⟩;simp [gc]
def RL:lj Ya (fun x=>gc x 2) KQ:=
 (yo 2).map fun x K=>by
  obtain⟨H,W⟩:=K;have W:x<65536:=W;have e:i64.wrap (u16.wrap x)=x:=by rw [wrap_u16,kW];omega
  rw [e];exact⟨rfl,H,by omega⟩
def Ly:lj X9 (fun x=>gc x 4) (fun x=>0<=x/\x<4294967296):=
 (yo 4).map fun x K=>by
  obtain⟨H,W⟩:=K;have W:x<4294967296:=W;have e:u32.wrap x=x:=by rw [GP];omega
  rw [e];exact⟨rfl,H,W⟩
def BL:lj yI (fun b=>[fB b]) (fun _=>True):=by
 intro l x r hl h;unfold yI at h
 cases hp:p8 l with
 |none=>rw [hp]at h;cases h
 |some u=>
  rw [hp,bz]at h;obtain⟨g1,g2,g3⟩:=ne l u.1 u.2 hl hp;split at h
  ·cases h
  ·rename_i hc;cases h;refine⟨?_,trivial,g3⟩;rw [g1];obtain⟨q1,q2⟩:=g2;rcases(show u.1=0\/u.1=1 by omega)with h0|h0<;>rw [h0]<;>rfl
def Vy(n:Nat):lj (Ls n) (fun bx=>bx) (fun bx=>bx.length=n/\qV bx):=by
 intro l x r hl h;unfold Ls at h;split at h
 ·cases h
 ·cases h;exact⟨by rw [vX],⟨by simp;omega,pU hl.1 n⟩,OK hl n⟩
def Lu{α:Type}{p:Pr α}{enc:α->List Int}{good:α->Prop}(h:lj p enc good): ∀n,lj (pl p n) (fun xs=>xs.flatMap enc) (fun xs=>xs.length=n/\ ∀x∈xs,good x)
 |0=>Iy [] rfl ⟨rfl,fun _ K=>by cases K⟩
 |n+1=>by
  have W:=lj.bind (enc:=fun xs=>xs.flatMap enc) (good:=fun xs=>xs.length=n+1/\ ∀x∈xs,good x) h (q:=fun x=>iH (fun xs=>x::xs) (pl p n)) (e2:=fun x xs=>(xs.drop 1).flatMap enc) (P2:=fun x xs=> ∃ys,xs=x::ys/\ys.length=n/\ ∀x∈ys,good x)
   (fun x K=>(Lu h n).map fun ys hy=>⟨by simp,ys,rfl,hy.1,hy.2⟩) (by
    rintro x y K ⟨ys,rfl,g1,g2⟩;refine⟨by simp,by simp [g1],fun z hz=>?_⟩;rcases ll.1 hz with rfl|hz
    ·exact K
    ·exact g2 z hz)
  have e:pl p (n+1)=cE p (fun x=>iH (fun xs=>x::xs) (pl p n)):=by
   funext l;unfold pl cE iH
   cases p l with
   |none=>rfl
   |some u=>simp only [bz];cases pl p n u.2<;>rfl
  rw [e];exact W
def A2{α:Type}{p:Pr α}{enc:α->List Int}{good:α->Prop}(h:lj p enc good):lj (yq p) (fun xs=>u8.wrap (xs.length:Int)::xs.flatMap enc) (fun xs=>xs.length<=255/\ ∀x∈xs,good x):=
 lj.bind ne (fun n _=>Lu h n.toNat) fun n xs hn K=>by
  obtain⟨H,W⟩:=hn;obtain⟨h3,h4⟩:=K;have e:(xs.length:Int)=n:=by omega
  rw [e];exact⟨rfl,by omega,h4⟩
def Oj{f:Int->Int}: ∀l:List Int,l.flatMap (fun x=>[f x])=l.map f
 |[]=>rfl
 |x::l=>by rw [Fy,Oj l];rfl
def HC:lj E2 UN (fun xs=>xs.length<=255/\ ∀x∈xs,iT x):=by
 have e:E2=yq p8:=rfl;rw [e];intro l x r hl h;obtain⟨g1,g2,g3⟩:=A2 ne l x r hl h;refine⟨?_,g2,g3⟩;rw [g1];unfold UN u8l;simp only [GL];congr 2;exact Oj x
def vt: ∀{bx:List Int},qV bx->oE (mF bx)=bx/\(mF bx).length=bx.length
 |[],_=>⟨rfl,rfl⟩
 |c::bx,h=>by
  obtain⟨⟨n,H,rfl⟩,W⟩:=pV h;obtain⟨g1,g2⟩:=vt W;refine⟨?_,by simp [mF]⟩;show((UInt8.ofNat (n:Int).toNat).toNat:Int)::oE (mF bx)=_;rw [g1,Cb,UInt8.toNat_ofNat',Nat.mod_eq_of_lt (by omega)]
def yJ(v:aD):lj (D0 v) (fun _=>[]) (fun w=>w=v/\iM v=true):=
 lj.bind lj.need (fun _ _=>Iy (good:=fun w=>w=v) v rfl rfl) fun _ w H W=>⟨rfl,W,H⟩
def gv(v:aD):Prop:=iM v=true/\v.S.length<=40
def Vv:lj pv vB gv:=by
 refine lj.bind ne (e2:=fun c v=>(vB v).drop 1) (P2:=fun c v=>v.Kind=c/\gv v) (fun c hc=>?_) (fun c v _ h=>⟨by rw [<-h.1];rfl,h.2⟩);refine lj.bind (P2:=fun _ v=>v.Kind=c/\gv v) (e2:=fun _ v=>(vB v).drop 1) lj.need (fun _ hc4=>?_) (fun _ v _ h=>⟨rfl,h⟩);unfold yK;split
 ·rename_i H;have H:c=1:=by simpa using H
  subst H;refine lj.bind (P2:=fun u v=>v=⟨1,u,0,[]⟩/\iM ⟨1,u,0,[]⟩=true) ne (fun u _=>yJ _) ?_;rintro u v hu ⟨rfl,hr⟩;exact⟨rfl,rfl,hr,by simp⟩
 split
 ·rename_i H;have H:c=2:=by simpa using H
  subst H;refine lj.bind (P2:=fun u v=>v=⟨2,i64z u,0,[]⟩/\iM ⟨2,i64z u,0,[]⟩=true) (yo 8) (fun u _=>yJ _) ?_;rintro u v ⟨hu,hu2⟩ ⟨rfl,hr⟩;have hu2:u<18446744073709551616:=hu2;refine⟨?_,rfl,hr,by simp⟩;show gc (u64.wrap (i64z u)) 8=_;have e:u64.wrap (i64z u)=u:=by unfold i64z;rw [EM,kW];omega
  rw [e,vW]
 split
 ·rename_i H;have H:c=3:=by simpa using H
  subst H;refine lj.bind (P2:=fun u v=>u<=40/\ ∃bx,(bx.length=u.toNat/\qV bx)/\v=⟨3,0,0,mF bx⟩/\iM ⟨3,0,0,mF bx⟩=true) (e2:=fun u v=>oE v.S) ne (fun u hu=>?_) ?_
  ·refine lj.bind (P2:=fun _ v=> ∃bx,(bx.length=u.toNat/\qV bx)/\v=⟨3,0,0,mF bx⟩/\iM ⟨3,0,0,mF bx⟩=true) (e2:=fun _ v=>oE v.S) lj.need (fun _ h40=>?_) (fun _ v h40 h=>⟨rfl,by simpa using h40,h⟩);refine lj.bind (P2:=fun bx v=>v=⟨3,0,0,mF bx⟩/\iM ⟨3,0,0,mF bx⟩=true) (Vy _) (fun bx _=>yJ _) ?_;rintro bx v ⟨hs1,hs2⟩ ⟨rfl,hr⟩;exact⟨by rw [(vt hs2).1,vW],bx,⟨hs1,hs2⟩,rfl,hr⟩
  ·rintro u v ⟨hu,_⟩ ⟨h40,bx,⟨hs1,hs2⟩,rfl,hr⟩;have hl:=(vt hs2).2;have e:((mF bx).length:Int)=u:=by rw [hl,hs1];omega
   refine⟨?_,rfl,hr,?_⟩
   ·show u8.wrap ((mF bx).length:Int)::oE (mF bx)=_;rw [e];rfl
   ·show(mF bx).length<=40;omega
 split
 ·rename_i H;have H:c=4:=by simpa using H
  subst H;refine lj.bind (P2:=fun u v=> ∃w,(0<=w/\w<2^(8*8))/\v=⟨4,i64z u,w,[]⟩/\iM ⟨4,i64z u,w,[]⟩=true) (e2:=fun u v=>gc v.U 8) (yo 8) (fun u hu=>?_) ?_
  ·refine lj.bind (P2:=fun w v=>v=⟨4,i64z u,w,[]⟩/\iM ⟨4,i64z u,w,[]⟩=true) (yo 8) (fun w _=>yJ _) ?_;rintro w v hw ⟨rfl,hr⟩;exact⟨by simp,w,hw,rfl,hr⟩
  ·rintro u v ⟨hu,hu2⟩ ⟨w,hw,rfl,hr⟩;have hu2:u<18446744073709551616:=hu2;refine⟨?_,rfl,hr,by simp⟩;show gc (u64.wrap (i64z u)) 8++gc w 8=_;have e:u64.wrap (i64z u)=u:=by unfold i64z;rw [EM,kW];omega
   rw [e]
 ·rename_i H W h3 h4;have hc' :c=0:=by
   have:=hc.1;have h4' :c<=4:=by simpa using hc4
   simp only [oJ]at H W h3 h4;omega
  subst hc';intro l v r hl h;obtain⟨g1,⟨rfl,g2⟩,g3⟩:=yJ _ l v r hl h;exact⟨g1,⟨rfl,g2,by simp⟩,g3⟩
end
section
def oe{α:Type}(n:Nat)(h:Int->Int->α)(e:List Int×Int):lj (qy n h e) (fun _=>[]) (fun u=> ∃L R,u.1=h L R):=by
 intro l x r hl K;unfold qy at K
 cases hp:zB n e.1 with
 |none=>rw [hp]at K;cases K
 |some u=>
  rw [hp]at K;cases K;exact⟨rfl,⟨u.1,u.2.1,rfl⟩,hl⟩
def gS(n:bw):Prop:=n.Value.S.length<=40
def abi(e:List Int×Int):lj (pE e) (fun u=>nB u.1) (fun u=>gS u.1):=by
 refine lj.bind ne (e2:=fun x u=>(nB u.1).drop 1) (P2:=fun x u=>u.1.Tag=x/\gS u.1) (fun x K=>?_) (fun x u _ h=>⟨by rw [<-h.1];rfl,h.2⟩);split
 ·rename_i H;have H:x=2:=by simpa using H
  subst H;refine lj.bind (P2:=fun c u=> ∃L R,u.1=(⟨2,L,R,c,vZ⟩:bw)) ne (fun c _=>oe _ _ _) ?_;rintro c ⟨u,e'⟩ hc ⟨L,R,rfl⟩;exact⟨rfl,rfl,by simp [gS,vZ]⟩
 split
 ·rename_i H;have H:x=1:=by simpa using H
  subst H;refine lj.bind (P2:=fun v u=> ∃L R,u.1=(⟨1,L,R,0,v⟩:bw)) Vv (fun v _=>oe _ _ _) ?_;rintro v ⟨u,e'⟩ hv ⟨L,R,rfl⟩;exact⟨by simp [nB],rfl,hv.2⟩
 ·rename_i W H;intro l u r hl hu;obtain⟨g1,⟨L,R,g2⟩,g3⟩:=oe _ _ _ l u r hl hu;obtain⟨u,e'⟩:=u;cases (g2:u=_);refine⟨?_,?_,g3⟩
  ·rw [g1];simp only [oJ]at H W;simp [nB,H,W]
  ·exact⟨rfl,by simp [gS,vZ]⟩
def E3{α E:Type}{p:E->Pr (α×E)}{enc:α->List Int}{good:α->Prop}(h: ∀e,lj (p e) (fun u=>enc u.1) (fun u=>good u.1)): ∀n e,lj (nu p n e) (fun u=>u.1.flatMap enc) (fun u=>u.1.length=n/\ ∀x∈u.1,good x)
 |0,e=>fun l u r hl hu=>by
  cases hu;exact⟨rfl,⟨rfl,fun _ K=>by cases K⟩,hl⟩
 |n+1,e=>fun l u r hl hu=>by
  unfold nu at hu
  cases hp:p e l with
  |none=>rw [hp]at hu;cases hu
  |some w=>
   rw [hp,bz]at hu;obtain⟨g1,g2,g3⟩:=h e l w.1 w.2 hl hp
   cases hq:nu p n w.1.2 w.2 with
   |none=>rw [hq]at hu;cases hu
   |some z=>
    rw [hq]at hu;cases hu;obtain⟨q1,q2,q3⟩:=E3 h n w.1.2 w.2 z.1 z.2 g3 hq;refine⟨?_,⟨by simp [q2.1],fun y hy=>?_⟩,q3⟩
    ·rw [g1,q1];simp
    ·rcases ll.1 hy with rfl|hy
     ·exact g2
     ·exact q2.2 y hy
def Kn{α:Type}{f:α->List Int}(h: ∀x,1<=(f x).length): ∀l:List α,l.length<=(l.flatMap f).length
 |[]=>kE 0
 |x::l=>by
  have:=Kn h l;have:=h x;rw [Fy,nY,jl];omega
def gX(e:bQ):Prop:=e.i'.length<=30000/\ ∀n∈e.i',gS n
def PN(N:Int):lj (HD N) (fun ns=>ns.flatMap nB) (fun ns=>ns.length=N.toNat/\ ∀n∈ns,gS n):=by
 intro l u r hl hu;unfold HD at hu
 cases hq:nu pE N.toNat ([],0) l with
 |none=>rw [hq]at hu;cases hu
 |some z=>
  rw [hq]at hu;cases hu;exact E3 abi N.toNat ([],0) l z.1 z.2 hl hq
def BN:lj wX eB gX:=by
 have h:lj wX eB (fun x=> ∀m∈x.i',gS m):=by
  refine lj.bind RL (e2:=fun _ x=>x.i'.flatMap nB) (P2:=fun n x=>x.i'.length=n.toNat/\ ∀m∈x.i',gS m) (fun n hn=>(PN n).map fun ns h=>⟨rfl,h⟩) ?_;rintro n x ⟨H,W⟩ ⟨h3,h4⟩;have e:(x.i'.length:Int)=n:=by omega
  exact⟨by unfold eB;rw [e],h4⟩
 intro l x r hl K;obtain⟨g1,⟨g2,g4⟩,g3⟩:=h.size l x r hl K;refine⟨g1,⟨?_,g2⟩,g3⟩;have:=Kn (f:=nB) (fun n=>by simp [nB]) x.i';unfold eB at g4;rw [nY]at g4;omega
def VD:lj PU agB (fun a=>gX a.Arg):=
 lj.bind ne (e2:=fun _ a=>eB a.Arg) (P2:=fun f a=>a.Tag=f/\gX a.Arg) (fun f _=>BN.map fun x h=>⟨rfl,rfl,h⟩) fun f a _ h=>⟨by rw [<-h.1];rfl,h.2⟩
def Vz:lj PM orB (fun _=>True):=
 lj.bind ne (e2:=fun _ a=>[fB a.Desc]) (P2:=fun f a=>a.o_=f) (fun f _=>BL.map fun x h=>⟨rfl,rfl⟩) fun f a _ h=>⟨by rw [<-h];rfl,trivial⟩
structure gD(n:al):Prop where
 g':n.A'.length<=255
 keys:n.v'.length<=255
 order:n.B'.length<=255
 items:n.D'.length<=255
 aggs:n.u'.length<=255
 cond:gX n.c_
 item: ∀e∈n.D',gX e
 arg: ∀a∈n.u',gX a.Arg
def gX0:gX ⟨[]⟩:=⟨by simp,fun _ h=>by cases h⟩
def PO(x:Int)(e:List Int×Int):lj (HE x e) (fun u=>IT u.1) (fun u=>u.1.Op=x/\gD u.1):=by
 unfold HE;split
 ·rename_i H;have H:x=1\/x=9:=by simpa using H
  refine lj.bind (P2:=fun t u=> ∃ks L R,ks.length<=255/\u.1=(⟨x,L,R,t,ks,false,⟨[]⟩,[],[],[],[],0⟩:al)) (e2:=fun _ u=>UN u.1.A') ne (fun t _=>?_) ?_
  ·refine lj.bind (P2:=fun ks u=> ∃L R,u.1=(⟨x,L,R,t,ks,false,⟨[]⟩,[],[],[],[],0⟩:al)) HC (fun ks _=>oe _ _ _) ?_;rintro ks ⟨u,e'⟩ hk ⟨L,R,rfl⟩;exact⟨by simp,ks,L,R,hk.1,rfl⟩
  ·rintro t ⟨u,e'⟩ D ⟨ks,L,R,hk,rfl⟩;exact⟨by simp [IT,H],rfl,⟨hk,by simp,by simp,by simp,by simp,gX0,by simp,by simp⟩⟩
 split
 ·rename_i H W;have W:x=2:=by simpa using W
  subst W;refine lj.bind (P2:=fun f u=> ∃c L R,gX c/\u.1=(⟨2,L,R,0,[],f,c,[],[],[],[],0⟩:al)) (e2:=fun _ u=>eB u.1.c_) BL (fun f _=>?_) ?_
  ·refine lj.bind (P2:=fun c u=> ∃L R,u.1=(⟨2,L,R,0,[],f,c,[],[],[],[],0⟩:al)) BN (fun ks _=>oe _ _ _) ?_;rintro c ⟨u,e'⟩ hk ⟨L,R,rfl⟩;exact⟨by simp,c,L,R,hk,rfl⟩
  ·rintro f ⟨u,e'⟩ D ⟨c,L,R,hk,rfl⟩;exact⟨by simp [IT],rfl,⟨by simp,by simp,by simp,by simp,by simp,hk,by simp,by simp⟩⟩
 split
 ·rename_i H W h3;have h3:x=3:=by simpa using h3
  subst h3;refine lj.bind (P2:=fun c u=> ∃L R,u.1=(⟨3,L,R,0,[],false,c,[],[],[],[],0⟩:al)) BN (fun ks _=>oe _ _ _) ?_;rintro c ⟨u,e'⟩ hk ⟨L,R,rfl⟩;exact⟨by simp [IT],rfl,⟨by simp,by simp,by simp,by simp,by simp,hk,by simp,by simp⟩⟩
 split
 ·rename_i H W h3 h4;have h4:x=4\/x=10\/x=11:=by simpa [or_assoc] using h4
  refine lj.bind (P2:=fun ks u=> ∃a L R,(a.length<=255/\ ∀g∈a,gX g.Arg)/\u.1=(⟨x,L,R,0,[],false,⟨[]⟩,ks,a,[],[],0⟩:al)) (e2:=fun _ u=>u8.wrap (u.1.u'.length:Int)::u.1.u'.flatMap agB) HC (fun ks _=>?_) ?_
  ·refine lj.bind (P2:=fun a u=> ∃L R,u.1=(⟨x,L,R,0,[],false,⟨[]⟩,ks,a,[],[],0⟩:al)) (A2 VD) (fun a _=>oe _ _ _) ?_;rintro a ⟨u,e'⟩ hk ⟨L,R,rfl⟩;exact⟨by simp,a,L,R,hk,rfl⟩
  ·rintro ks ⟨u,e'⟩ D ⟨a,L,R,hk,rfl⟩;refine⟨?_,rfl,⟨by simp,D.1,by simp,by simp,hk.1,gX0,by simp,hk.2⟩⟩;rcases h4 with rfl|rfl|rfl<;>simp [IT]
 split
 ·rename_i H W h3 h4 h5;have h5:x=5:=by simpa using h5
  subst h5;refine lj.bind (P2:=fun a u=> ∃L R,u.1=(⟨5,L,R,0,[],false,⟨[]⟩,[],[],a,[],0⟩:al)) (A2 BN) (fun a _=>oe _ _ _) ?_;rintro a ⟨u,e'⟩ hk ⟨L,R,rfl⟩;exact⟨by simp [IT],rfl,⟨by simp,by simp,by simp,hk.1,by simp,gX0,hk.2,by simp⟩⟩
 split
 ·rename_i H W h3 h4 h5 h8;have h8:x=8:=by simpa using h8
  subst h8;refine lj.bind (P2:=fun a u=> ∃l L R,(0<=l/\l<4294967296)/\u.1=(⟨8,L,R,0,[],false,⟨[]⟩,[],[],[],a,Jj l⟩:al)) (e2:=fun _ u=>VY u.1) (A2 Vz) (fun a _=>?_) ?_
  ·refine lj.bind (P2:=fun l u=> ∃L R,u.1=(⟨8,L,R,0,[],false,⟨[]⟩,[],[],[],a,Jj l⟩:al)) Ly (fun l _=>oe _ _ _) ?_;rintro l ⟨u,e'⟩ hk ⟨L,R,rfl⟩;refine⟨?_,l,L,R,hk,rfl⟩;unfold VY Jj;have e:u64.wrap (i64.wrap (i64.wrap (i64.wrap l-1)+1))=l:=by
    obtain⟨q1,q2⟩:=hk;rw [EM,kW,kW,kW];omega
   simp only [e,vW]
  ·rintro a ⟨u,e'⟩ D ⟨l,L,R,hk,rfl⟩;exact⟨by simp [IT],rfl,⟨by simp,by simp,D.1,by simp,by simp,gX0,by simp,by simp⟩⟩
 have last: ∀n,(H: ¬(x==1||x==9)=true)->(W: ¬(x==2)=true)->(h3: ¬(x==3)=true)->(h4: ¬(x==4||x==10||x==11)=true)->(h5: ¬(x==5)=true)->(h8: ¬(x==8)=true)->lj (qy n (fun L R=>(⟨x,L,R,0,[],false,⟨[]⟩,[],[],[],[],0⟩:al)) e) (fun u=>IT u.1) (fun u=>u.1.Op=x/\gD u.1):=by
  intro n H W h3 h4 h5 h8 l u r hl hu;obtain⟨g1,⟨L,R,g2⟩,g3⟩:=oe _ _ _ l u r hl hu;obtain⟨u,e'⟩:=u;cases (g2:u=_);refine⟨?_,?_,g3⟩
  ·rw [g1];simp only [CK,oJ,not_or]at H W h3 h4 h5 h8;simp [IT,H,W,h3,h4,h5,h8]
  ·exact⟨rfl,⟨by simp,by simp,by simp,by simp,by simp,gX0,by simp,by simp⟩⟩
 split<;>(rename_i H W h3 h4 h5 h8 _;exact last _ H W h3 h4 h5 h8)
def TG(e:List Int×Int):lj (J2 e) (fun u=>wY u.1) (fun u=>gD u.1):=
 lj.bind ne (fun x _=>PO x e) fun x u _ h=>⟨by unfold wY;rw [h.1];rfl,h.2⟩
def NA(N:Int):lj (DY N) (fun ns=>ns.flatMap wY) (fun ns=>ns.length=N.toNat/\ ∀n∈ns,gD n):=by
 intro l u r hl hu;unfold DY at hu
 cases hq:nu J2 N.toNat ([],0) l with
 |none=>rw [hq]at hu;cases hu
 |some z=>
  rw [hq]at hu;cases hu;exact E3 TG N.toNat ([],0) l z.1 z.2 hl hq
structure gF(f:dl):Prop where
 cols:f.p_.length<=255
 len:f.i'.length<=255
 n: ∀n∈f.i',gD n
def TK:lj NF UP gF:=by
 refine lj.bind ne (P2:=fun a f=>f.At=a/\gF f) (e2:=fun a f=>(UP f).drop 1) (fun a _=>?_) fun a f _ h=>⟨by rw [<-h.1];rfl,h.2⟩;refine lj.bind ne (P2:=fun w f=>f.At=a/\f.Way=w/\gF f) (e2:=fun a f=>(UP f).drop 2) (fun w _=>?_) fun w f _ h=>⟨by rw [<-h.2.1];rfl,h.1,h.2.2⟩;refine lj.bind HC (P2:=fun cs f=>f.At=a/\f.Way=w/\f.p_=cs/\f.i'.length<=255/\ ∀n∈f.i',gD n) (e2:=fun _ f=>u8.wrap (f.i'.length:Int)::f.i'.flatMap wY) (fun cs _=>?_) fun cs f hc h=>⟨by rw [<-h.2.2.1];simp [UP],h.1,h.2.1,by rw [h.2.2.1];exact hc.1,h.2.2.2.1,h.2.2.2.2⟩;refine lj.bind ne (P2:=fun n f=>f.At=a/\f.Way=w/\f.p_=cs/\f.i'.length=n.toNat/\ ∀n∈f.i',gD n) (e2:=fun _ f=>f.i'.flatMap wY) (fun n _=>(NA n).map fun ns h=>⟨rfl,rfl,rfl,rfl,h.1,h.2⟩) ?_;rintro n f ⟨q1,q2⟩ ⟨H,W,h3,h4,h5⟩;have e:(f.i'.length:Int)=n:=by omega
 exact⟨by rw [e];rfl,H,W,h3,by omega,h5⟩
structure gP(p:iG):Prop where
 len:p.L'.length<=255
 f: ∀f∈p.L',gF f
def TE:lj Ny RJ gP:=(A2 TK).map fun fs h=>⟨rfl,h.1,h.2⟩
end
section
structure ZE(e:bQ):Prop where
 len:e.i'.length<=60000
 str: ∀n∈e.i',n.Value.S.length<=100
structure ZD(n:al):Prop where
 cond:ZE n.c_
 item: ∀e∈n.D',ZE e
 arg: ∀a∈n.u',ZE a.Arg
def El{α:Type}{f:α->List Int}(x:α)(l:List α):((x::l).flatMap f).length=(f x).length+(l.flatMap f).length:=by rw [Fy,nY]
def Z3(e:bQ):(eB e).length=2+(e.i'.flatMap nB).length:=by unfold eB;rw [nY,gz]
end
section
def Ef{f:dl}(h:gF f)(hl:f.i'.length<=90):sr f.i':=by
 refine⟨hl,fun n hn=>?_⟩;have k:=h.n n hn;have:=k.cond.1;have:=k.g';have:=k.keys;have:=k.order;have:=k.items;have:=k.aggs;exact⟨by omega,by omega,by omega,by omega,by omega,by omega,fun g Y=>(k.arg g Y).1,fun e he=>(k.item e he).1⟩
def T7{f:dl}(h:gF f): ∃r,iP f.i'=some r/\(r.2.2=0-> ∀n∈f.i',VN n):=by
 by_cases hc:((decide ((f.i'.length:Int)<(1:Int)))||(decide ((60:Int)<(f.i'.length:Int))))=true
 ·unfold iP;rw [bM hc];exact⟨_,rfl,fun h=>by simp at h⟩
 ·have hl:f.i'.length<=90:=by
   simp only [CK,mS,not_or]at hc;omega
  obtain⟨out,w,e,H,W⟩:=II (Ef h hl);refine⟨_,H,fun h0=>?_⟩;have h0:e=0:=h0;subst h0;exact Xu (Ef h hl) H
def Wh{e:bQ}(h:gX e):ZE e:=⟨by have:=h.1;omega,fun n hn=>by have:=h.2 n hn;unfold gS at this;omega⟩
def adu{n:al}(h:gD n):ZD n:=⟨Wh h.cond,fun e he=>Wh (h.item e he),fun a ha=>Wh (h.arg a ha)⟩
end
section
def afM(x:Int):Prop:= -9223372036854775808<=x/\x<=9223372036854775807
def afL(x:Int):Prop:=0<=x/\x<=18446744073709551615
structure rgV(v:aD):Prop where
 n:afM v.N
 u:afL v.U
def rgX(e:bQ):Prop:= ∀n∈e.i',rgV n.Value
end
section
def Ee(e:bQ):Prop:=pt e.i'=true\/e.i'.length=0
structure GN(n:al):Prop where
 prt:0<=prt n.Op
 own:uq n=true
 scan:n.Op=1\/n.Op=9->iT n.Table/\n.A'.length<=255/\ ∀k∈n.A',iT k
 cond:n.Op=2\/n.Op=3->Ee n.c_
 grp:n.Op=4\/n.Op=10\/n.Op=11->n.v'.length<=255/\(∀k∈n.v',iT k)/\n.u'.length<=255/\ ∀a∈n.u',iT a.Tag/\Ee a.Arg
 prj:n.Op=5->n.D'.length<=255/\ ∀e∈n.D',Ee e
 srt:n.Op=8->n.B'.length<=255/\(∀o∈n.B',iT o.o_)/\ -1<=n.J'/\n.J'<=2147483647
def Xm{g:f9}{a:List Int}(h:(EC g a).2=true):iT g.Tag/\Ee g.Arg:=by
 unfold EC at h;unfold iT;by_cases H:g.Tag=1
 ·rw [bM H]at h;exact⟨by omega,.inr (by simpa using h)⟩
 rw [bB H]at h;by_cases h3:g.Tag=3
 ·rw [bM h3]at h;simp only [nw,oJ,mS]at h;exact⟨by omega,.inl (tN h.1.1.1)⟩
 rw [bB h3]at h;split at h
 ·simp only [nw,oJ,mS]at h;exact⟨by omega,.inl (tN h.1.1)⟩
 ·simp only [nw,oJ,mS]at h;exact⟨by omega,.inl (tN h.1.1)⟩
def JL{e:bQ}{ks:List Int}(h:KX e ks=true):Ee e:=by
 unfold KX at h;simp only [nw,oJ]at h;exact .inl (tN h.1)
def TR{a:List Int}{e:Int}(ha:a.length<=16)(h:yL a e=false):iT e:=by
 simp [yL]at h;unfold iT;omega
def Oa{n:al}(hn:kq n)(h4:n.Op=4){a b k:List Int}(ha:a.length<=16)(h:dq n a b=some (k,true)):n.v'.length<=255/\(∀k∈n.v',iT k)/\n.u'.length<=255/\ ∀a∈n.u',iT a.Tag/\Ee a.Arg:=by
 rw [rk4 hn h4]at h
 cases hany:n.v'.any (yL a)with
 |true=>rw [hany,bM rfl]at h;cases h
 |false=>
  rw [hany,bB (by simp)]at h;injection h with h;injection h with W h3;simp only [nw,mI,mS]at h3;refine⟨by omega,fun e he=>?_,by omega,fun g Y=>?_⟩
  ·exact TR ha (by have:=List.any_eq_false.1 hany e he;simpa using this)
  ·have:=h3.1.1.1 g Y;rw [<-(EB g a).1]at this;exact Xm this
def Ki{a:List Int}: ∀(ks:List Int) (i:Nat),Ar a ks i=true->i+ks.length<=255-> ∀k∈ks,iT k
 |[],_,_,_=>fun k hk=>by cases hk
 |k::tl,i,h,hl=>fun x K=>by
  unfold Ar at h;simp only [nw,oJ]at h;simp only [jl]at hl;rcases ll.1 K with rfl|K
  ·unfold iT;omega
  ·exact Ki tl (i+1) h.2 (by omega) x K
def YG{g:f9}{k:Int}(h:(fk g k).2=true):iT g.Tag/\Ee g.Arg:=by
 unfold fk at h;unfold iT;repeat' split at h
 all_goals simp at h
 all_goals exact⟨by omega,.inr (by rw [h.1];rfl)⟩
def Qs{l:aE}(h:Lb l){e:al}(hA:gw l.nodes l.n.A=some e){r:Bool×aE}(hr:ff l=some r)(D:r.1=true):l.n.v'.length<=255/\(∀k∈l.n.v',iT k)/\l.n.u'.length<=255/\ ∀a∈l.n.u',iT a.Tag/\Ee a.Arg:=by
 have hk:=h.n.keys;have Y:=h.n.aggs;have ha:=h.a;have hw:i64.wrap ((l.n.v'.length:Int)+(l.n.u'.length:Int))=((l.n.v'.length+l.n.u'.length:Nat):Int):=by rw [gg (by omega) (by omega)];omega
 unfold ff at hr;rw [hA,bz]at hr;by_cases hc:((((e.Op==(9:Int))&&(decide ((l.n.v'.length:Int)<=(3:Int))))&&(decide ((l.n.u'.length:Int)<=(12:Int))))&&((i64.wrap ((l.n.v'.length:Int)+(l.n.u'.length:Int)))==(l.a_.length:Int)))=true
 ·have hc' :(l.n.v'.length<=3/\l.n.u'.length<=12)/\l.n.v'.length+l.n.u'.length=l.a_.length:=by
   rw [hw]at hc;simp only [nw,oJ,mS]at hc;omega
  rw [hc,bB (by simp),wx _ (by omega),bz,E8 (by omega) l.a_ l.n.v' 0 true (yA _),o4]at hr;have:=Ia (l:=l) hk l.n.u' 0 (Ar l.a_ l.n.v' 0) (l.a_.take l.n.v'.length) (l.a_.drop l.n.v'.length) (by simp;omega) (by simp;omega) rfl (by simp;omega);rw [vX]at this;rw [this]at hr;cases hr;simp only [nw,mI]at D;refine⟨by omega,Ki _ _ D.1 (by omega),by omega,fun g hg' =>?_⟩;obtain⟨j,hj,hjx⟩:=List.getElem_of_mem hg';have hlen:(l.a_.drop l.n.v'.length).length=l.n.u'.length:=by simp;omega
  have hm:(l.n.u'[j],(l.a_.drop l.n.v'.length)[j]'(by omega))∈l.n.u'.zip (l.a_.drop l.n.v'.length):=by
   rw [List.mem_iff_getElem];exact⟨j,by simp;omega,by simp⟩
  have:=D.2 _ hm;rw [hjx]at this;exact YG this
 ·rw [Dp]at hc;rw [hc,bM (show(!false)=true from rfl)]at hr;cases hr;cases D
def acZ{l:aE}(h:Lb l)(hp:0<=prt l.n.Op)(ho:uq l.n=true)(hA:prt l.n.Op≠0-> ∃e,gw l.nodes l.n.A=some e){R:List Int}(hR:R.length<=16)(hk:qU l.n.Op l ()=some (true,{l with j':=R})):GN l.n:=by
 have m13:Je l.n.Op=true-> ∃k,dq l.n l.a_ l.b=some (k,true)/\k.length<=16:=fun h8=>by
  obtain⟨ok,R',o,k,g1,g2,g3,_⟩:=VX h h8;have g1' :qU l.n.Op l ()=some (ok,{l with j':=R' }):=g1;rw [hk]at g1';injection g1' with g1';injection g1' with q1 q2;have q3:R=R' :=congrArg aE.j' q2;subst q3;subst q1;have:decide (R.length<=16)=true:=by simpa using hR
  rw [this,o4]at g3;have g4:=g3.symm;simp only [nw,mS]at g4;rw [g4.1]at g2;exact⟨k,g2,g4.2⟩
 refine⟨hp,ho,fun H=>?_,fun H=>?_,fun H=>?_,fun H=>?_,fun H=>?_⟩
 ·rcases H with H|H
  ·obtain⟨k,g1,g2⟩:=m13 (by rw [H];rfl);rw [rk1 h.n H]at g1;injection g1 with g1;injection g1 with g3 g4;simp only [nw,mI,mS]at g4;unfold iT;refine⟨by omega,by omega,fun x K=>?_⟩;have:=g4.1.1.1.1 x K;omega
  ·rw [H]at hk;have hk' :jr l=some (true,{l with j':=R}):=hk;rw [HS]at hk';injection hk' with hk';injection hk' with q1 q2;unfold LI at q1;simp only [nw,mI,mS]at q1;unfold iT;refine⟨by omega,by omega,fun x K=>?_⟩;have:=q1.2 x K;omega
 ·rcases H with H|H
  ·obtain⟨k,g1,g2⟩:=m13 (by rw [H];rfl);rw [rk2 H h.a h.b]at g1;injection g1 with g1;injection g1 with g3 g4;exact JL g4
  ·obtain⟨k,g1,g2⟩:=m13 (by rw [H];rfl);rw [rk3 H]at g1;injection g1 with g1;injection g1 with g3 g4;exact JL g4
 ·rcases H with H|H|H
  ·obtain⟨k,g1,g2⟩:=m13 (by rw [H];rfl);exact Oa h.n H h.a g1
  ·rw [H]at hk;have hk' :fW l=some (true,{l with j':=R}):=hk;unfold fW at hk';obtain⟨q,q1,q2⟩:=bs hk';by_cases hq:q.1=true
   ·have hn4:kq {l.n with Op:=4}:=⟨h.n.cond,h.n.g',h.n.keys,h.n.aggs,h.n.items,h.n.order,h.n.args,h.n.exprs⟩;obtain⟨ok,R',o,k,g1,g2,g3,_⟩:=C7 h (n:={l.n with Op:=4}) rfl hn4 rfl rfl [];rw [g1]at q1;cases q1;have hq:ok=true:=hq;rw [hq]at g3;rw [<-g3]at g2;exact Oa (n:={l.n with Op:=4}) hn4 rfl h.a g2
   ·rw [bM (by simpa using hq)]at q2;cases q2
  ·rw [H]at hk;have hk' :ff l=some (true,{l with j':=R}):=hk;obtain⟨e,he⟩:=hA (by rw [H];decide);exact Qs h he hk' rfl
 ·obtain⟨k,g1,g2⟩:=m13 (by rw [H];rfl);rw [rk5 h.n H]at g1;injection g1 with g1;injection g1 with g3 g4;simp only [nw,mI,mS,oJ]at g4;exact⟨by omega,fun e he=> .inl (tN (g4.1.1 e he))⟩
 ·obtain⟨k,g1,g2⟩:=m13 (by rw [H];rfl);have ha:=h.a;rw [rk8 h.n H]at g1;injection g1 with g1;injection g1 with g3 g4;simp only [nw,mI,mS]at g4;refine⟨by omega,fun o ho=>?_,by omega,by omega⟩;have:=g4.1.1.1 o ho;unfold iT;omega
def Frs:List al->Nat->List Int->Prop
 |[],_,_=>True
 |e::tl,i,st=>PlN e st/\GN e/\Frs tl (i+1) ((i:Int)::st.drop (prt e.Op).toNat)
section
variable{ns:List al}{l:aE}{i:Nat}
def S9(h:Uw ns l i)(hs:sr ns){e:al}(he:ns[i]? =some e){l' :aE}(D:eG l (i:Int) (qU e.Op)=some (true,l')):PlN e l.m'.reverse/\GN e/\l'.m'.reverse=(i:Int)::l.m'.reverse.drop (prt e.Op).toNat:=by
 have hi:=(vK.1 he).1;have h90:=hs.len;have hse:=hs.n e (t7 he);have hkl:=h.k.len;have hopen:=h.k.m';by_cases Y:PlN e l.m'.reverse/\uq e=true
 ·obtain⟨hp,ho⟩:=Y;have hprt:0<=prt e.Op:=by rcases hp with h|h|h<;>omega
  have hA1:prt e.Op≠0->0<=e.A/\e.A<(i:Int):=fun hne=>by
   rcases hp with h|⟨_,_,r,hr⟩|⟨_,r,hr⟩
   ·exact absurd h.1 hne
   ·exact hopen e.A (MB.1 (by rw [hr];simp))
   ·exact hopen e.A (MB.1 (by rw [hr];simp))
  have hlb:Lb (zG l e (kA l.g' e.A) (kA l.g' e.B)):=⟨hse,Fa h.k.g' _,Fa h.k.g' _⟩;have hA2:prt (zG l e (kA l.g' e.A) (kA l.g' e.B)).n.Op≠0-> ∃x,gw (zG l e (kA l.g' e.A) (kA l.g' e.B)).nodes (zG l e (kA l.g' e.A) (kA l.g' e.B)).n.A=some x:=fun hne=>by
   have:=hA1 hne;refine⟨ns[e.A.toNat]'(by omega),?_⟩;show gw l.nodes e.A=_;rw [h.k.nodes,oj e.A.toNat (by omega),vp (by omega)]
  obtain⟨ok0,R0,g1,_⟩:=OL hlb hA2 hprt;have g1' :qU e.Op (zG l e (kA l.g' e.A) (kA l.g' e.B)) ()=some (ok0,{zG l e (kA l.g' e.A) (kA l.g' e.B)with j':=R0}):=g1;obtain⟨l2,t1,t2⟩:=G9 h.k (by omega) (by omega) he hse hp ho g1';rw [D]at t1;injection t1 with t1;injection t1 with t3 t4;subst t4;have t5:=t2 t3.symm;have t6:=t3.symm;simp only [nw,mS]at t6;have hok:ok0=true:=t6.2.2.1;subst hok;exact⟨hp,acZ hlb hprt ho hA2 t6.2.2.2 g1',t5.2⟩
 ·obtain⟨l2,t1⟩:=JO h.k (by omega) (by omega) he hse Y;rw [D]at t1;cases t1
def N2(hs:sr ns): ∀(tl:List al) (i:Nat) (l:aE),ns.drop i=tl->Uw ns l i-> ∀{out:List (List Int)} {w:Int},gN ns ((nJ).getD []) tl i (-1) l=some (out,w,0)->Frs tl i l.m'.reverse
 |[],_,_,_,_,_,_,_=>trivial
 |e::tl,i,l,hd,hS,out,w,h=>by
  obtain⟨hidx,hi,hd'⟩:=jN hd;rw [eU]at hidx;obtain⟨ok,l',g1,g2,g3⟩:=EU hS hs hidx tl;unfold gN at h;have g1' :eG l (i:Int) ((C5 ((nJ).getD []) e.Op).getD (fun _ _=>none))=some (ok,l'):=g1;rw [g1',bz]at h
  cases ok with
  |false=>
   rw [bM (by rfl)]at h;unfold lc at h;rw [bB (by simp;omega),su l' (by omega)]at h;cases h
  |true=>
   rw [bB (by simp)]at h;obtain⟨k1,k2,k3⟩:=S9 hS hs hidx g1;have:=N2 hs tl (i+1) l' hd' (g2 rfl).1 h;rw [k3]at this;exact⟨k1,k2,this⟩
end
def UC{ns:List al}(hs:sr ns){out:List (List Int)}{w:Int}(h:iP ns=some (out,w,0)):1<=ns.length/\ns.length<=60/\Frs ns 0 []:=by
 unfold iP at h;split at h
 ·cases h
 ·rename_i hc;simp only [CK,mS,not_or]at hc;exact⟨by omega,by omega,N2 hs ns 0 ⟨ns,[],[],⟨0,0,0,0,[],false,⟨[]⟩,[],[],[],[],0⟩,[],[],[]⟩ rfl ⟨⟨rfl,rfl,fun p hp=>(by cases hp),kE _,fun k hk=>(by cases hk),fun j hj=>by omega⟩,.nil,fun k hk=>by cases hk⟩ h⟩
end
section
structure rgD(n:al):Prop where
 cond:rgX n.c_
 item: ∀e∈n.D',rgX e
 arg: ∀a∈n.u',rgX a.Arg
def rgP(p:iG):Prop:= ∀f∈p.L',∀n∈f.i',rgD n
def HG{n:al}(h:E5 n=true):(n.Op≠1->n.Table=0/\n.A'=[])/\(n.Op≠2->n.Left=false)/\(n.Op≠2->n.Op≠3->n.c_=⟨[]⟩)/\(n.Op≠4->n.v'=[]/\n.u'=[])/\(n.Op≠5->n.D'=[])/\(n.Op≠8->n.B'=[]/\n.J'=0):=by
 have z: ∀{α:Type} (l:List α),¬((0:Int)<(l.length:Int))->l=[]:=fun l hl=>vM (by omega);unfold E5 qg at h;split at h
 ·simp at h
 rename_i c1;split at h
 ·simp at h
 rename_i c2;split at h
 ·simp at h
 rename_i c3;simp only [CK,nw,Ay,ne_eq,mS,Option.getD_some,oJ]at c1 c2 c3 h;refine⟨fun K=>?_,fun K=>?_,fun K hy=>?_,fun K=>?_,fun K=>?_,fun K=>?_⟩
 ·have H: ¬(¬n.Table=0\/(0:Int)<(n.A'.length:Int)):=fun hh=>c1 ⟨K,hh⟩;exact⟨Decidable.byContradiction fun hh=>H (.inl hh),z _ fun hh=>H (.inr hh)⟩
 ·cases hl:n.Left with
  |false=>rfl
  |true=>exact absurd (.inl ⟨K,hl⟩) c2
 ·have:=z _ fun hh=>c2 (.inr ⟨⟨K,hy⟩,hh⟩);generalize n.c_=c at this;obtain⟨l⟩:=c;have:l=[]:=this;rw [this]
 ·exact⟨z _ fun hh=>c3 (.inl ⟨K,.inl hh⟩),z _ fun hh=>c3 (.inl ⟨K,.inr hh⟩)⟩
 ·exact z _ fun hh=>c3 (.inr ⟨K,hh⟩)
 ·rcases h with h|⟨H,W⟩
  ·exact absurd h K
  ·exact⟨vM (by omega),W⟩
def TP{n:al}(hp:0<=prt n.Op)(h:uq n=true):(n.Op≠1->n.Op≠9->n.Table=0/\n.A'=[])/\(n.Op≠2->n.Left=false)/\(n.Op≠2->n.Op≠3->n.c_=⟨[]⟩)/\(n.Op≠4->n.Op≠10->n.Op≠11->n.v'=[]/\n.u'=[])/\(n.Op≠5->n.D'=[])/\(n.Op≠8->n.B'=[]/\n.J'=0):=by
 rcases J7 hp with h8|h9|Y
 ·rw [RN h8]at h;obtain⟨a1,a2,a3,a4,a5,a6⟩:=HG h;have:=tK h8;exact⟨fun H _=>a1 H,a2,a3,fun H _ _=>a4 H,a5,a6⟩
 ·rw [Yb h9]at h;obtain⟨a1,a2,a3,a4,a5,a6⟩:=HG h;have k2:(1:Int)≠2:=by decide
  have k3:(1:Int)≠3:=by decide
  have k4:(1:Int)≠4:=by decide
  have k5:(1:Int)≠5:=by decide
  have k8:(1:Int)≠8:=by decide
  exact⟨fun _ H=>absurd h9 H,fun _=>a2 k2,fun _ _=>a3 k2 k3,fun _ _ _=>a4 k4,fun _=>a5 k5,fun _=>a6 k8⟩
 ·rw [RM Y]at h;obtain⟨a1,a2,a3,a4,a5,a6⟩:=HG h;have k1:(4:Int)≠1:=by decide
  have k2:(4:Int)≠2:=by decide
  have k3:(4:Int)≠3:=by decide
  have k5:(4:Int)≠5:=by decide
  have k8:(4:Int)≠8:=by decide
  exact⟨fun _ _=>a1 k1,fun _=>a2 k2,fun _ _=>a3 k2 k3,fun H W h3=>by omega,fun _=>a5 k5,fun _=>a6 k8⟩
structure goodF(f:dl):Prop where
 at_:iT f.At
 way:iT f.Way
 cols:f.p_.length<=255/\ ∀c∈f.p_,iT c
 len:f.i'.length<=255
 ns:Frs f.i' 0 []
def Yt{ns:List al}(hs:sr ns)(h:Qg ns=true):ns.length<=60/\Frs ns 0 []:=by
 unfold Qg at h
 cases hk:iP ns with
 |none=>rw [hk]at h;cases h
 |some r=>
  obtain⟨out,w,e⟩:=r;rw [hk]at h;have he:e=0:=by simpa using h
  subst he;exact(UC hs hk).2
end
section
section
variable{b:List Int}
def RS{α:Type}{f:dx->av->Option (α×dx×av)}{p:Pr α}(hf:Rd b f p)(N:Int)(hN:N<=65535){L:Nat->List α->Int->dx->av->Option (List α×dx×av)}
  (hL: ∀fu out x r o,L (fu+1) out x r o=if decide (x<N)=true then(fZ r o).bind fun c=>if c=true then(f r o).bind fun u=>(hU out [u.1]).bind fun V'=>L fu V' (i64.wrap (x+1)) u.2.1 u.2.2 else some (out,r,o)else some (out,r,o)):
  Rd b (fun r o=>L de [] 0 r o) (pl p N.toNat):=by
 have h:=Eb hf.toE (fun _ _ _=>PY) (fun _ _=>PZ) N hN () trivial (L:=fun fu out x r o _=>(L fu out x r o).map fun q=>(q.1,q.2.1,q.2.2,())) (by
  intro fu out x r o e;cases e;simp only [hL];by_cases K:decide (x<N)=true
  ·simp only [K,gQ]
   cases fZ r o with
   |none=>rfl
   |some c=>
    cases c with
    |false=>rfl
    |true=>
     simp only [bz,uc,jc,hX,gQ]
     cases f r o with
     |none=>rfl
     |some q=>
      simp only [bz,nq];cases hU out [q.1]<;>rfl
  ·simp only [K];rfl)
 have e:(fun l=>(nu (fun(_:Unit) l=>(p l).map fun u=>((u.1,()),u.2)) N.toNat () l).map fun u=>(u.1.1,u.2))=pl p N.toNat:=funext fun l=>Gz p N.toNat l;rw [e]at h;refine h.congr fun r o=>?_;cases L de [] 0 r o<;>rfl
end
def I8:Pr (List aD):=cE p8 fun n=>cE (yH (decide (n<=16))) fun _=>pl pv n.toNat
def Cv:Pr (List (List aD)):=cE Ya fun n=>cE (yH (decide (n<=400))) fun _=>pl I8 n.toNat
def Vd{ρ:Type}{r r' :ρ}{o o' :av}{x:Int}(h:Ve r o=some (x,r',o')):iT x:=by
 unfold Ve at h
 cases hq:dd o with
 |none=>rw [hq]at h;cases h
 |some q=>
  rw [hq]at h;cases h;unfold dd at hq
  cases hw:df o 1 with
  |none=>rw [hw]at hq;cases hq
  |some w=>
   rw [hw]at hq;cases hq;unfold iT;rw [xq,kW];omega
section
variable{b:List Int}(V:b.length<=900000000)(N':qV b)
include V N'
def XP(N:Int)(hN:N<=65535):Rd b (fun t o=>il t o N) (pl pv N.toNat):=
 RS (MW V N') N hN (L:=jM N) fun _ _ _ _ _=>rfl
def aa8:Rd b s8 I8:=by
 have:=yW (g:=fun n t o=>(yP (decide (n<=16)) t o).bind fun u=>il u.2.1 u.2.2 n) iT (fun _ _ _ _ _=>Vd) (Ry (ρ:=dx) V N') fun n hn=>Rd.bind (g:=fun _ t o=>il t o n) (D8 _) fun _=>XP V N' n (by unfold iT at hn;omega);refine this.congr fun t o=>?_;unfold s8 Ve yP
 cases dd o with
 |none=>rfl
 |some q=>
  simp only [bz,nq]
  cases dz t q.2 (decide (i64.wrap q.1<=16))with
  |none=>rfl
  |some t1=>
   simp only [bz,nq];cases il t1 q.2 (i64.wrap q.1)<;>rfl
def X2(N:Int)(hN:N<=65535):Rd b (fun t o=>jb t o N) (pl I8 N.toNat):=
 RS (aa8 V N') N hN (L:=kC N) fun _ _ _ _ _=>rfl
def Yq:Rd b sq Cv:=by
 have:=yW (g:=fun n t o=>(yP (decide (n<=400)) t o).bind fun u=>jb u.2.1 u.2.2 n) KQ (fun _ _ _ _ _=>MZ) (Vh (ρ:=dx) V N') fun n hn=>Rd.bind (g:=fun _ t o=>jb t o n) (D8 _) fun _=>X2 V N' n hn.2;refine this.congr fun t o=>?_;unfold sq S5 yP
 cases jC o with
 |none=>rfl
 |some q=>
  simp only [bz,nq]
  cases dz t q.2 (decide (i64.wrap q.1<=400))with
  |none=>rfl
  |some t1=>
   simp only [bz,nq];cases jb t1 q.2 (i64.wrap q.1)<;>rfl
end
def Pt{l:List Int}(hl:l.length<=900000000){v:List (List aD)}{t:dx}{o:av}(h:O9 l (Cv l) v t o): ∃q,oD t o v=some q/\OO l Cv q:=by
 unfold O9 at h;unfold OO oD
 cases hp:Cv l with
 |none=>
  rw [hp]at h;obtain⟨_,k,y,rfl,W,h3⟩:=h;have h3:t.bad=true\/y≠0:=h3
  cases V:t.bad with
  |true=>exact⟨_,rfl,show(160:Int)≠0 by decide⟩
  |false=>
   have hy:y≠0:=by rcases h3 with h|h;rw [V]at h;cases h;exact h
   rw [bB (by simp),yy,bz,bM (by simpa using hy),bz];exact⟨_,rfl,hy⟩
 |some w=>
  rw [hp]at h;obtain⟨rfl,k,⟨g1,g2,rfl,g4⟩,g5⟩:=h;have g1:t.all=(l.length:Int):=g1;have g2:t.bad=false:=g2;rw [g2,bB (by simp),yy,bz,bB (by simp),B5 0 g4 (by omega),bz];refine⟨_,rfl,k,g4,?_,g5.symm⟩;rw [g1,kW];have:(l.length:Int)-((l.length-k:Nat):Int)=(k:Int):=by omega
  rw [this];have:((k:Int)+9223372036854775808)%18446744073709551616-9223372036854775808=(k:Int):=by omega
  simp [this]
def CF{l:List Int}(hl:l.length<=900000000)(N':qV l): ∃q,o3 l=some q/\OO l Cv q:=by
 unfold o3;rw [CD hl,bz];obtain⟨v,t,o,H,W⟩:=(Yq hl N').ok 0 ⟨rj,(l.length:Int),false⟩ (rd l 0 0) ⟨rfl,rfl,rfl,by omega⟩;rw [H,bz];obtain⟨q,h3,h4⟩:=Pt hl W;rw [h3];exact⟨q,rfl,h4⟩
def LL(r:bq)(o:av):Option (List (List aD)×bq×av):=(j4 r o).bind fun l=>(o3 l).bind fun q=>(iz r o q.2.1 q.2.2).bind fun bx=>some (q.1,bx.1,bx.2)
def Wl{b:List Int}(V:b.length<=900000000)(N':qV b):Rd b LL Cv:=by
 refine⟨fun k r o hk=>?_,fun r o hn=>?_⟩
 ·obtain⟨H,W,rfl,h4⟩:=hk;obtain⟨q,g1,g2⟩:=CF (l:=b.drop k) (by simp;omega) (ka N' k);obtain⟨r',o',g3,g4⟩:=(Gt V g2).1 r ⟨H,W,rfl,h4⟩;unfold LL;rw [Gu V H 0 h4,bz,g1,bz,g3];exact⟨_,_,_,rfl,g4⟩
 ·have hn' :=hn;obtain⟨H,k,y,rfl,h4,h5⟩:=hn;obtain⟨q,g1,g2⟩:=CF (l:=b.drop k) (by simp;omega) (ka N' k);obtain⟨r',o',g3,g4⟩:=(Gt V g2).2 r y h4 hn' h5;unfold LL;rw [Gu V H y h4,bz,g1,bz,g3];exact⟨_,_,_,rfl,g4⟩
def Fp{ρ:Type} [Ml ρ]{b:List Int}{α:Type}{f g:ρ->av->Option (α×ρ×av)}{p q:Pr α}(c:Bool)(hf:Rd b f p)(Y:Rd b g q):Rd b (fun r o=>if c=true then f r o else g r o) (if c=true then p else q):=by
 cases c with
 |true=>exact hf
 |false=>exact Y
def D2(kind:Int):Pr di:=cE X9 fun bx=>cE (pw 8) fun q=>
 if(kind==2)=true then iH (fun l=>(⟨kind,bx,q,l,⟨[],false,0⟩⟩:di)) (pw 8)
 else cE yI fun e=>if e=true then iH (fun c=>(⟨kind,bx,q,0,⟨[],e,c⟩⟩:di)) (pw 8)else iH (fun l=>(⟨kind,bx,q,0,⟨l,e,0⟩⟩:di)) Cv
def J5{b:List Int}(V:b.length<=900000000)(N':qV b)(kind:Int):Rd b (fun r o=>mh r o kind) (D2 kind):=by
 have h64:=KV (ρ:=bq) V N';have:=(Vf (ρ:=bq) V N').bind fun bx=>h64.bind fun q=>Fp (kind==2) (h64.map fun l=>(⟨kind,bx,q,l,⟨[],false,0⟩⟩:di))
  ((GE V N').bind fun e=>Fp e (h64.map fun c=>(⟨kind,bx,q,0,⟨[],e,c⟩⟩:di)) ((Mn (fun _ _ _=>Kc) (fun _ _=>Ke) [] (Wl V N')).map fun l=>(⟨kind,bx,q,0,⟨l,e,0⟩⟩:di)))
 refine this.congr fun r o=>?_;unfold mh Vg KW FD LL mw
 cases mO o with
 |none=>rfl
 |some x=>
  simp only [bz,nq]
  cases eX x.2 with
  |none=>rfl
  |some y=>
   simp only [bz,nq];by_cases hk:(kind==2)=true
   ·simp only [hk,gQ];cases eX y.2<;>rfl
   ·simp only [hk,hX,jc]
    cases hf:gO r y.2 with
    |none=>rfl
    |some e=>
     obtain⟨e,r1,o1⟩:=e;simp only [bz]
     cases e with
     |true=>
      simp only [gQ];cases eX o1<;>rfl
     |false=>
      simp only [jc,hX]
      cases eo r1 o1 with
      |none=>rfl
      |some c=>
       cases c with
       |false=>rfl
       |true=>
        simp only [bz,gQ]
        cases j4 r1 o1 with
        |none=>rfl
        |some l=>
         simp only [bz]
         cases o3 l with
         |none=>rfl
         |some q=>
          simp only [bz];cases iz r1 o1 q.2.1 q.2.2<;>rfl
abbrev Pf:di:=⟨0,0,0,0,⟨[],false,0⟩⟩
def Lw(k f t e:Int):Pr cH:=
 if(k==1)=true then cE p8 fun bx=>iH (fun p=>(⟨k,f,t,e,0,bx,p,Pf,0⟩:cH)) Ny
 else if(k==3)=true then cE p8 fun g=>iH (fun p=>(⟨k,f,t,e,g,0,⟨[]⟩,p,0⟩:cH)) (D2 1)
 else if(k==4)=true then cE p8 fun g=>iH (fun p=>(⟨k,f,t,e,g,0,⟨[]⟩,p,0⟩:cH)) (D2 2)
 else if(k==5)=true then iH (fun c:Bool=>(⟨k,f,t,e,0,0,⟨[]⟩,Pf,if c=true then 300 else 140⟩:cH)) yI
 else fun l=>some (⟨k,f,t,e,0,0,⟨[]⟩,Pf,0⟩,l)
def PQ:Pr cH:=cE p8 fun k=>cE p8 fun f=>cE p8 fun t=>cE p8 fun e=>Lw k f t e
def Qf{b:List Int}(V:b.length<=900000000)(N':qV b):Rd b nR PQ:=by
  have hs:=qZ V N';have:=hs.bind fun k=>hs.bind fun f=>hs.bind fun t=>hs.bind fun e=>Fp (k==1) (hs.bind fun bx=>(X6 V N').map fun p=>(⟨k,f,t,e,0,bx,p,Pf,0⟩:cH))
    (Fp (k==3) (hs.bind fun g=>(J5 V N' 1).map fun p=>(⟨k,f,t,e,g,0,⟨[]⟩,p,0⟩:cH))
    (Fp (k==4) (hs.bind fun g=>(J5 V N' 2).map fun p=>(⟨k,f,t,e,g,0,⟨[]⟩,p,0⟩:cH))
    (Fp (k==5) ((GE V N').map fun c=>(⟨k,f,t,e,0,0,⟨[]⟩,Pf,if c=true then 300 else 140⟩:cH))
      (Mo (⟨k,f,t,e,0,0,⟨[]⟩,Pf,0⟩:cH)))))
  refine this.congr fun r o=>?_;unfold nR n6
  cases bv r o with
  |none=>rfl
  |some k=>
  simp only [bz,nq]
  cases bv r k.2 with
  |none=>rfl
  |some f=>
  simp only [bz,nq]
  cases bv r f.2 with
  |none=>rfl
  |some t=>
  simp only [bz,nq]
  cases bv r t.2 with
  |none=>rfl
  |some e=>
  simp only [bz,nq];by_cases H:(k.1==1)=true
  · simp only [H,gQ]
    cases bv r e.2 with
    |none=>rfl
    |some bx=>
      simp only [bz,nq]
  simp only [H,hX,jc];by_cases h3:(k.1==3)=true
  · simp only [h3,gQ]
    cases bv r e.2 with
    |none=>rfl
    |some bx=>
      simp only [bz,nq]
  simp only [h3,hX,jc];by_cases h4:(k.1==4)=true
  · simp only [h4,gQ]
    cases bv r e.2 with
    |none=>rfl
    |some bx=>
      simp only [bz,nq]
  simp only [h4,hX,jc];by_cases h5:(k.1==5)=true
  · simp only [h5,gQ]
    cases gO r e.2 with
    |none=>rfl
    |some c=>
      simp only [bz];cases c.1<;>rfl
  · simp only [h5,hX,jc]
end
section
def rgR(r:List aD):Prop:= ∀v∈r,rgV v
def afK(l:List (List aD)):Prop:= ∀r∈l,rgR r
structure rgM(m:cH):Prop where
 p:rgP m.b_
 r:afK m.C'.Q'.Rows
end
section
def lj.imp{α:Type}{p:Pr α}{enc enc' :α->List Int}{good good' :α->Prop}(h:lj p enc good)(e: ∀x,good x->enc' x=enc x/\good' x):lj p enc' good' :=fun l x r hl K=>by
 obtain⟨a,b,c⟩:=h l x r hl K;exact⟨by rw [(e x b).1];exact a,(e x b).2,c⟩
def Vx:lj I8 roB (fun r=>oM r=true):=by
 refine lj.bind ne (e2:=fun _ r=>r.flatMap vB) (P2:=fun n r=>n<=16/\r.length=n.toNat/\ ∀v∈r,gv v) (fun n hn=>lj.bind (P2:=fun _ r=>r.length=n.toNat/\ ∀v∈r,gv v) (e2:=fun _ r=>r.flatMap vB) lj.need (fun _ _=>Lu Vv n.toNat) (fun _ r hc h=>⟨rfl,by simpa using hc,h⟩)) ?_;rintro n r ⟨H,W⟩ ⟨h3,h4,h5⟩;have e:(r.length:Int)=n:=by omega
 refine⟨by unfold roB;rw [e];rfl,?_⟩;unfold oM;simp only [nw,mS,mI];exact⟨by omega,fun v hv=>(h5 v hv).1⟩
def aba{r:List aD}(h:oM r=true):Vp r=(roB r,0):=by
 unfold oM at h;simp only [nw,mS,mI]at h;unfold Vp;rw [bB (by omega),bM (mI.2 h.2)]
def VZ: ∀(l:List (List aD)) (i:Nat) (b:List Int),(∀r∈l,oM r=true)->XE l i b=(b++l.flatMap roB,0,0)
 |[],i,b,_=>by simp [XE]
 |r::l,i,b,h=>by
  unfold XE;rw [aba (h r (jO ..)),bM rfl,VZ l (i+1) _ fun x K=>h x (kX _ K),Fy,jR]
def R4(l:List (List aD)):Prop:=l.length<=400/\ ∀r∈l,oM r=true
def TJ:lj Cv (fun l=>(lsB l).1) R4:=by
 refine lj.bind RL (e2:=fun _ l=>l.flatMap roB) (P2:=fun n l=>n<=400/\l.length=n.toNat/\ ∀r∈l,oM r=true) (fun n hn=>lj.bind (P2:=fun _ l=>l.length=n.toNat/\ ∀r∈l,oM r=true) (e2:=fun _ l=>l.flatMap roB) lj.need (fun _ _=>Lu Vx n.toNat) (fun _ r hc h=>⟨rfl,by simpa using hc,h⟩)) ?_;rintro n l ⟨H,W⟩ ⟨h3,h4,h5⟩;have e:(l.length:Int)=n:=by omega
 refine⟨?_,by omega,h5⟩;unfold lsB;rw [VZ l 0 _ h5,e]
def adi{bx:Int}(h:0<=bx/\bx<4294967296):u64.wrap bx=bx:=by rw [EM];omega
def TO:lj (D2 1) Ey (fun p=>R4 p.Q'.Rows):=by
 unfold D2;refine lj.bind Ly (P2:=fun bx p=>p.g_=bx/\R4 p.Q'.Rows) (e2:=fun bx p=>(Ey p).drop 4) (fun bx hs=>?_) (fun bx p hs h=>⟨?_,h.2⟩)
 ·refine lj.bind (yo 8) (P2:=fun q p=>p.g_=bx/\p.Seq=q/\R4 p.Q'.Rows) (e2:=fun q p=>fB p.Q'.End::(if p.Q'.End then gc p.Q'.s_ 8 else(lsB p.Q'.Rows).1)) (fun q hq=>?_) (fun q p hq h=>⟨?_,h.1,h.2.2⟩)
  ·rw [bB (by decide)];refine lj.bind BL (P2:=fun e p=>p.g_=bx/\p.Seq=q/\p.Q'.End=e/\R4 p.Q'.Rows) (e2:=fun e p=>if p.Q'.End then gc p.Q'.s_ 8 else(lsB p.Q'.Rows).1) (fun e _=>?_) (fun e p _ h=>⟨by rw [<-h.2.2.1];rfl,h.1,h.2.1,h.2.2.2⟩)
   cases e with
   |true=>
    rw [bM rfl];exact(yo 8).map fun c hc=>⟨rfl,rfl,rfl,rfl,by simp [R4]⟩
   |false=>
    rw [bB (by simp)];exact TJ.map fun l hl=>⟨rfl,rfl,rfl,rfl,hl⟩
  ·unfold Ey;rw [h.2.1,jR,List.drop_left' (gz _ _)]
 ·unfold Ey;rw [h.1,adi hs,jR,List.drop_left' (gz _ _)]
def TN:lj (D2 2) Q8 (fun p=>R4 p.Q'.Rows):=by
 unfold D2;refine lj.bind Ly (P2:=fun bx p=>p.g_=bx/\R4 p.Q'.Rows) (e2:=fun bx p=>gc p.Seq 8++gc p.J' 8) (fun bx hs=>?_) (fun bx p hs h=>⟨?_,h.2⟩)
 ·refine lj.bind (yo 8) (P2:=fun q p=>p.g_=bx/\p.Seq=q/\R4 p.Q'.Rows) (e2:=fun q p=>gc p.J' 8) (fun q hq=>?_) (fun q p hq h=>⟨by rw [h.2.1],h.1,h.2.2⟩);rw [bM (by decide)];exact(yo 8).map fun c hc=>⟨rfl,rfl,rfl,by simp [R4]⟩
 ·unfold Q8;rw [h.1,adi hs,jR]
structure gM(m:cH):Prop where
 p:gP m.b_
 pl:(RJ m.b_).length<=30000
 r:R4 m.C'.Q'.Rows
def gP0:gP ⟨[]⟩:=⟨by simp,fun f hf=>by cases hf⟩
def abB:R4 []:=by simp [R4]
def X7:(RJ ⟨[]⟩).length<=30000:=by simp [RJ]
def TL(k f t e:Int):lj (Lw k f t e) (fun m=>if k=1 then u8.wrap m.U'::RJ m.b_ else if k=3 then u8.wrap m.e_::Ey m.C' else if k=4 then u8.wrap m.e_::Q8 m.C' else if k=5 then [fB (m.G_==300)]else []) (fun m=>m.Kind=k/\m.f_=f/\m.To=t/\m.P'=e/\gM m):=by
 unfold Lw;by_cases k1:k=1
 ·rw [bM (by simpa using k1)];have h:=lj.bind ne (q:=fun bx=>iH (fun p=>(⟨k,f,t,e,0,bx,p,Pf,0⟩:cH)) Ny) (e2:=fun _ m=>RJ m.b_) (P2:=fun bx m=>m.U'=bx/\(m.Kind=k/\m.f_=f/\m.To=t/\m.P'=e/\gM m)) (enc:=fun m=>[u8.wrap m.U']++RJ m.b_) (good:=fun m=>m.Kind=k/\m.f_=f/\m.To=t/\m.P'=e/\gM m) (fun bx _=>TE.size.map fun p hp=>⟨rfl,rfl,rfl,rfl,rfl,rfl,hp.1,hp.2,abB⟩) (fun bx m _ h=>⟨by rw [h.1],h.2⟩);exact h.imp fun m hm=>⟨by rw [bM k1];rfl,hm⟩
 rw [bB (by simpa using k1)];by_cases k3:k=3
 ·rw [bM (by simpa using k3)];have h:=lj.bind ne (q:=fun g=>iH (fun p=>(⟨k,f,t,e,g,0,⟨[]⟩,p,0⟩:cH)) (D2 1)) (e2:=fun _ m=>Ey m.C') (P2:=fun bx m=>m.e_=bx/\(m.Kind=k/\m.f_=f/\m.To=t/\m.P'=e/\gM m)) (enc:=fun m=>[u8.wrap m.e_]++Ey m.C') (good:=fun m=>m.Kind=k/\m.f_=f/\m.To=t/\m.P'=e/\gM m) (fun bx _=>TO.map fun p hp=>⟨rfl,rfl,rfl,rfl,rfl,rfl,gP0,X7,hp⟩) (fun bx m _ h=>⟨by rw [h.1],h.2⟩);exact h.imp fun m hm=>⟨by rw [bB k1,bM k3];rfl,hm⟩
 rw [bB (by simpa using k3)];by_cases k4:k=4
 ·rw [bM (by simpa using k4)];have h:=lj.bind ne (q:=fun g=>iH (fun p=>(⟨k,f,t,e,g,0,⟨[]⟩,p,0⟩:cH)) (D2 2)) (e2:=fun _ m=>Q8 m.C') (P2:=fun bx m=>m.e_=bx/\(m.Kind=k/\m.f_=f/\m.To=t/\m.P'=e/\gM m)) (enc:=fun m=>[u8.wrap m.e_]++Q8 m.C') (good:=fun m=>m.Kind=k/\m.f_=f/\m.To=t/\m.P'=e/\gM m) (fun bx _=>TN.map fun p hp=>⟨rfl,rfl,rfl,rfl,rfl,rfl,gP0,X7,hp⟩) (fun bx m _ h=>⟨by rw [h.1],h.2⟩);exact h.imp fun m hm=>⟨by rw [bB k1,bB k3,bM k4];rfl,hm⟩
 rw [bB (by simpa using k4)];by_cases k5:k=5
 ·rw [bM (by simpa using k5)];have h:=BL.map (f:=fun c:Bool=>(⟨k,f,t,e,0,0,⟨[]⟩,Pf,if c=true then 300 else 140⟩:cH)) (enc:=fun m=>[fB (m.G_==300)]) (good:=fun m=>m.Kind=k/\m.f_=f/\m.To=t/\m.P'=e/\gM m) fun c _=>⟨by cases c<;>rfl,rfl,rfl,rfl,rfl,gP0,X7,abB⟩;exact h.imp fun m hm=>⟨by rw [bB k1,bB k3,bB k4,bM k5],hm⟩
 rw [bB (by simpa using k5)];exact Iy _ (by simp only;rw [bB k1,bB k3,bB k4,bB k5]) ⟨rfl,rfl,rfl,rfl,gP0,X7,abB⟩
def Nz:lj PQ VW gM:=by
 refine lj.bind ne (P2:=fun k m=>m.Kind=k/\gM m) (e2:=fun _ m=>(VW m).drop 1) (fun k _=>?_) (fun k m _ h=>⟨by rw [<-h.1];rfl,h.2⟩);refine lj.bind ne (P2:=fun f m=>m.Kind=k/\m.f_=f/\gM m) (e2:=fun _ m=>(VW m).drop 2) (fun f _=>?_) (fun f m _ h=>⟨by rw [<-h.2.1];rfl,h.1,h.2.2⟩);refine lj.bind ne (P2:=fun t m=>m.Kind=k/\m.f_=f/\m.To=t/\gM m) (e2:=fun _ m=>(VW m).drop 3) (fun t _=>?_) (fun t m _ h=>⟨by rw [<-h.2.2.1];rfl,h.1,h.2.1,h.2.2.2⟩);refine lj.bind ne (P2:=fun e m=>m.Kind=k/\m.f_=f/\m.To=t/\m.P'=e/\gM m) (e2:=fun _ m=>(VW m).drop 4) (fun e _=>?_) (fun e m _ h=>⟨by rw [<-h.2.2.2.1];rfl,h.1,h.2.1,h.2.2.1,h.2.2.2.2⟩);exact(TL k f t e).imp fun m h=>⟨by rw [<-h.1];rfl,h⟩
def Io{a b:List Int}(ha:qV a)(V:qV b):pg a b=some (decide (a=b)):=by
 unfold pg;congr 1;rw [tY,oJ,mS];refine⟨fun h=>?_,fun h=>by rw [h]⟩;have:=congrArg oE h
 rwa [(vt ha).1,(vt V).1]at this
def sl(b:List Int):List Int:=(pn b).getD []
def Kz: ∀k n,qV (Af n k)
 |0,_=>fun x K=>by cases K
 |k+1,n=>fun x K=>by
  rcases ll.1 K with rfl|K
  ·exact⟨n%256,by omega,rfl⟩
  ·exact Kz k _ x K
def sv(b:List Int):Nat:=4294967295-b.foldl (fun r x=>FS r x.toNat) 4294967295
def adh{b:List Int}(V:qV b)(hl:b.length<=50000000000):pn b=some (sl b)/\qV (sl b)/\sl b=b++Af (sv b) 4:=by
 have H:pn b=some (b++Af (sv b) 4):=by
  obtain⟨bx,_,W,h3⟩:=ET b 4294967295 (by omega) V;have h4:wy b=some ((sv b:Nat):Int):=by
   unfold wy sv;rw [M4,bz,<-W];exact h3
  unfold pn ph;rw [h4,bz,bZ (by simp;omega),bz,bz,pM,Le 4 _ b (by omega)]
 have e:sl b=b++Af (sv b) 4:=by unfold sl;rw [H];rfl
 exact⟨by rw [H,e],by rw [e];exact Q4 V (Kz 4 _),e⟩
def aah{b:List Int}(V:qV b)(hl:b.length<=900000000):uP b=some (if b.length<4 then([],7)else if sl (b.take (b.length-4))=b then(b.take (b.length-4),0)else([],130)):=by
 unfold uP;rw [gg (by omega) (by omega)];by_cases h:b.length<4
 ·rw [bM (by rw [mS];omega),bM h]
 ·rw [bB (by rw [mS];omega),bB h,kM 0 (b.length-4) (show(0:Int)=((0:Nat):Int)from rfl) (by omega) (by omega) (by omega),bz,yf];have hbt:=pU V (b.length-4);obtain⟨H,W,_⟩:=adh hbt (by simp;omega);have hc:ph (b.take (b.length-4))=some (b.take (b.length-4)):=by
   unfold ph;rw [bZ (by simp;omega)];rfl
  rw [hc,bz,H,bz,Io W V,bz];by_cases he:sl (b.take (b.length-4))=b
  ·rw [bM he,bB (by simp [he])]
  ·rw [bB he,bM (by simp [he])]
def zM:cH:=⟨0,0,0,0,0,0,⟨[]⟩,⟨0,0,0,0,⟨[],false,0⟩⟩,0⟩
def UE{b c:List Int}(V:qV b)(hl:b.length<=900000000)(ho:uP c=some (b,0)):mC c=match PQ b with
  |some (m,[])=>(pc m).bind fun q=>some (if q&&decide (c.length<=20000)then(m,0)else(zM,331))
  |_=>some (zM,331):=by
 unfold mC;rw [ho,bz,bB (by simp)];have h0:Ok b 0 (⟨rj,b,false⟩:bq) (rd b 0 0):=⟨rfl,rfl,rfl,mT _⟩;obtain⟨x,r1,o1,H,W⟩:=(Qf hl V).ok 0 _ _ h0;rw [Jn hl,bz,H,bz];rw [yf]at W;simp only;unfold O9 at W
 cases hp:PQ b with
 |none=>
  rw [hp]at W;rw [WR W];rfl
 |some v=>
  obtain⟨v,rest⟩:=v;rw [hp]at W;obtain⟨rfl,k,h3,h4⟩:=W;rw [WQ hl h3,h4]
  cases rest with
  |nil=>
   simp only [bz]
   cases pc x with
   |none=>rfl
   |some q=>
    cases q with
    |false=>rfl
    |true=>
     show(if(false||decide ((20000:Int)<(c.length:Int)))=true then _ else _)=_;by_cases hc:c.length<=20000
     ·rw [bB (by simp;omega)];show _=some (if(true&&decide (c.length<=20000))=true then _ else _);rw [bM (by simpa using hc)]
     ·rw [bM (by simp;omega)];show _=some (if(true&&decide (c.length<=20000))=true then _ else _);rw [bB (by simpa using hc)];rfl
  |cons c l=>rfl
def abu{p:iG}(h:gP p):w8 p=some (Bb p):=Kh p p.L' fun f hf=>by
 obtain⟨r,H,_⟩:=T7 (h.f f hf);exact⟨r,H⟩
def Tz{p:di}(h:pz p=true)(Y:R4 p.Q'.Rows):SmR p.Q'.Rows:=by
 have hl:p.Q'.Rows.length<=4:=by
  unfold pz at h;rw [nw]at h;have W:=h.2;by_cases k1:p.Kind=1
  ·rw [bM k1,nw]at W;have h3:=W.2;unfold Di at h3;split at h3
   ·cases h3
   ·split at h3
    ·simp only [nw,oJ]at h3;omega
    ·unfold BB at h3;simp only [nw,oJ,mS]at h3;omega
  ·rw [bB k1]at W;by_cases k2:p.Kind=2
   ·rw [bM k2]at W;simp only [nw,oJ,mS]at W;omega
   ·rw [bB k2]at W;cases W
 refine⟨by omega,fun r hr=>?_⟩;have h5:=Y.2 r hr;unfold oM at h5;simp only [nw,mS,mI]at h5;refine⟨by omega,fun v hv=>?_⟩;have hv' :=h5.2 v hv;obtain⟨k,n,u,bx⟩:=v;unfold iM ip at hv';simp only at hv' ⊢;by_cases k0:k=0
 ·simp [k0]at hv';simp [hv']
 by_cases k1:k=1
 ·simp [k1]at hv';simp [hv']
 by_cases k2:k=2
 ·simp [k2]at hv';simp [hv']
 by_cases k3:k=3
 ·simp [k3]at hv';omega
 ·simp [k0,k1,k2,k3]at hv';simp [hv']
def Li{m:cH}(h:gM m):pc m=some (q6 m):=Jm m (abu h.p)
end
section
def IM{c x:List Int}{e:Int}(ho:uP c=some (x,e))(h:e≠0):mC c=some (zM,e):=by
 unfold mC;rw [ho,bz,bM (by simpa using h)];rfl
end
section
def cu(b:List Int)(k:Nat):bd:=⟨b,(k:Int),false⟩
def UU(b:List Int)(c:bd):Prop:=c.Bytes=b/\c.B_=true
def IQ(b:List Int){α:Type}(q:Option (α×List Int))(x:α)(c:bd):Prop:=
 match q with
 |some (v,rest)=>x=v/\ ∃k,k<=b.length/\c=cu b k/\b.drop k=rest
 |none=>UU b c
structure ow(b:List Int){α:Type}(f:bd->Option (α×bd))(p:Pr α):Prop where
 ok: ∀k,k<=b.length-> ∃x c,f (cu b k)=some (x,c)/\IQ b (p (b.drop k)) x c
 no: ∀c,UU b c-> ∃x c',f c=some (x,c')/\UU b c'
variable{b:List Int}{α β:Type}
def ow.congr{f g:bd->Option (α×bd)}{p:Pr α}(h:ow b f p)(e: ∀c,g c=f c):ow b g p:=
 ⟨fun k hk=>by rw [e];exact h.ok k hk,fun c hn=>by rw [e];exact h.no c hn⟩
def ow.bind{f:bd->Option (α×bd)}{p:Pr α}{g:α->bd->Option (β×bd)}{q:α->Pr β}(hf:ow b f p)(Y: ∀x,ow b (g x) (q x)):
  ow b (fun c=>(f c).bind fun u=>g u.1 u.2) (cE p q):=by
 refine⟨fun k hk=>?_,fun c hn=>?_⟩
 ·obtain⟨x,c1,H,W⟩:=hf.ok k hk;rw [H,bz];unfold IQ at W;unfold cE
  cases hp:p (b.drop k)with
  |none=>
   rw [hp]at W;obtain⟨y,c2,h3,h4⟩:=(Y x).no c1 W;exact⟨y,c2,h3,h4⟩
  |some v=>
   rw [hp]at W;obtain⟨rfl,k1,h3,rfl,h5⟩:=W;obtain⟨y,c2,h6,h7⟩:=(Y v.1).ok k1 h3;rw [h5]at h7;exact⟨y,c2,h6,h7⟩
 ·obtain⟨x,c1,H,W⟩:=hf.no c hn;rw [H,bz];exact(Y x).no c1 W
def B0{f:bd->Option (α×bd)}{p:Pr α}{g:α->bd->Option (β×bd)}{q:α->Pr β}(P:α->Prop)(hP: ∀k,k<=b.length-> ∀x c',f (cu b k)=some (x,c')->P x)(hN: ∀c,UU b c-> ∀x c',f c=some (x,c')->P x)(hf:ow b f p)(Y: ∀x,P x->ow b (g x) (q x)):
  ow b (fun c=>(f c).bind fun u=>g u.1 u.2) (cE p q):=by
 refine⟨fun k hk=>?_,fun c hn=>?_⟩
 ·obtain⟨x,c1,H,W⟩:=hf.ok k hk;have K:=hP _ hk _ _ H;rw [H,bz];unfold IQ at W;unfold cE
  cases hp:p (b.drop k)with
  |none=>
   rw [hp]at W;obtain⟨y,c2,h3,h4⟩:=(Y x K).no c1 W;exact⟨y,c2,h3,h4⟩
  |some v=>
   rw [hp]at W;obtain⟨rfl,k1,h3,rfl,h5⟩:=W;obtain⟨y,c2,h6,h7⟩:=(Y v.1 K).ok k1 h3;rw [h5]at h7;exact⟨y,c2,h6,h7⟩
 ·obtain⟨x,c1,H,W⟩:=hf.no c hn;rw [H,bz];exact(Y x (hN _ hn _ _ H)).no c1 W
def ow.pcongr{f:bd->Option (α×bd)}{p q:Pr α}(h:ow b f p)(e: ∀k,k<=b.length->q (b.drop k)=p (b.drop k)):ow b f q:=
 ⟨fun k hk=>by rw [e k hk];exact h.ok k hk,h.no⟩
def vI(x:α):ow b (fun c=>some (x,c)) (fun l=>some (x,l)):=
 ⟨fun k hk=>⟨x,cu b k,rfl,rfl,k,hk,rfl,rfl⟩,fun c hn=>⟨x,c,rfl,hn⟩⟩
def ow.map{f:bd->Option (α×bd)}{p:Pr α}(h:α->β)(hf:ow b f p):
  ow b (fun c=>(f c).bind fun u=>some (h u.1,u.2)) (iH h p):=by
 have:=hf.bind (g:=fun x c=>some (h x,c)) (q:=fun x l=>some (h x,l)) fun x=>vI (h x);have e:iH h p=cE p (fun x l=>some (h x,l)):=by
  funext l;unfold iH cE;cases p l<;>rfl
 rw [e];exact this
def qS{f g:bd->Option (α×bd)}{p q:Pr α}(t:Bool)(hf:ow b f p)(Y:ow b g q):ow b (fun c=>if t=true then f c else g c) (if t=true then p else q):=by
 cases t with
 |true=>exact hf
 |false=>exact Y
def aan{σ:Type}{f:bd->Option (α×bd)}{p:Pr α}(hf:ow b f p)(mk:List α->σ){fin:σ->bd->Option (β×bd)}{pf:List α->Pr β}(hfin: ∀xs,ow b (fin (mk xs)) (pf xs))(N:Int)(hN:N<=65535)
  {L:Nat->Int->σ->bd->Option (β×bd)}(hL: ∀fu x out c,L (fu+1) x (mk out) c=if(decide (x<N)&&(!c.B_))=true then(f c).bind fun u=>(hU out [u.1]).bind fun o2=>L fu (i64.wrap (x+1)) (mk o2) u.2 else fin (mk out) c):
  ow b (fun c=>L de 0 (mk []) c) (cE (pl p N.toNat) pf):=by
 have hbad: ∀(fu:Nat) (x:Int) (out:List α) (c:bd),UU b c-> ∃y c',L (fu+1) x (mk out) c=some (y,c')/\UU b c' :=fun fu x out c hn=>by
  rw [hL,bB (by rw [hn.2];simp)];exact(hfin out).no c hn
 have key: ∀(m i fu:Nat) (out:List α) (k:Nat),i+m=N.toNat->m<fu->out.length<=i->k<=b.length-> ∃y c,L fu (i:Int) (mk out) (cu b k)=some (y,c)/\IQ b (cE (pl p m) (fun xs=>pf (out++xs)) (b.drop k)) y c:=by
  intro m
  induction m with
  |zero=>
   intro i fu out k H W h3 h4
   cases fu with
   |zero=>omega
   |succ fu=>
    rw [hL,bB (by simp;omega)];have:=(hfin out).ok k h4;unfold cE pl;simp only [bz,vW];exact this
  |succ m ih=>
   intro i fu out k H W h3 h4
   cases fu with
   |zero=>omega
   |succ fu=>
    obtain⟨x,c1,g1,g2⟩:=hf.ok k h4;rw [hL,bM (by simp [cu];omega),g1,bz,bZ (by simp;omega),bz,AH (by omega)];unfold IQ at g2;unfold cE pl
    cases hp:p (b.drop k)with
    |none=>
     rw [hp]at g2
     cases fu with
     |zero=>omega
     |succ fu=>exact hbad fu _ _ c1 g2
    |some v=>
     obtain⟨v1,v2⟩:=v;rw [hp]at g2;obtain⟨rfl,k1,h5,rfl,h6⟩:=g2;have h6:b.drop k1=v2:=h6;obtain⟨y,c2,q1,q2⟩:=ih (i+1) fu (out++[x]) k1 (by omega) (by omega) (by simp;omega) h5;refine⟨y,c2,q1,?_⟩;unfold cE at q2;simp only [bz];rw [h6]at q2
     cases hq:pl p m v2 with
     |none=>rw [hq]at q2;exact q2
     |some w=>
      rw [hq]at q2;simp only [bz,jR,Rk]at q2 ⊢;exact q2
 obtain⟨n,hn'⟩:=Eg;refine⟨fun k hk=>?_,fun c hn=>?_⟩
 ·obtain⟨y,c,H,W⟩:=key N.toNat 0 de [] k (by omega) (ur (by omega)) (kE _) hk;exact⟨y,c,H,W⟩
 ·rw [hn'];exact hbad n 0 [] c hn
def TM(t:List Int)(n:Nat)(hn:n<=2)(D:t.length<=100000)(a:Int):o8 t (n:Int) a=some (match zB n t with
  |some (x,y,r)=>(r++[a],x,y,true)
  |none=>([],-1,-1,false)):=by
 have k2: ∀(m:Nat) (x y:Int),m<=t.length->q7 t (m:Int) a y x=some (t.take (t.length-m)++[a],x,y,true):=fun m x y hm=>by
  unfold q7;rw [show i64.wrap ((t.length:Int)-(m:Int))=((t.length-m:Nat):Int) by rw [kW];omega,show(0:Int)=((0:Nat):Int)from rfl,oK (mT _) (by omega),bz,bZ (by simp;omega),bz,bZ (by simp;omega),bz];simp
 have ix: ∀(m:Nat) (h:m<t.length),gw t (i64.wrap ((t.length:Int)-((t.length-m:Nat):Int)))=some t[m]:=fun m h=>by
  rw [show i64.wrap ((t.length:Int)-((t.length-m:Nat):Int))=(m:Int) by rw [kW];omega,eU,vp h]
 unfold o8;by_cases hl:t.length<n
 ·rw [bM (by rw [mS];omega)]
  match n,hn with
  |0,_=>omega
  |1,_=>
   have:t=[]:=vM (by omega);subst this;rfl
  |2,_=>
   match t,hl with
   |[],_=>rfl
   |[x],_=>rfl
   |x::y::t,hl=>simp at hl;omega
 ·rw [bB (by rw [mS];omega)]
  match n,hn with
  |0,_=>
   rw [bB (by decide)];unfold oN;rw [bB (by decide),k2 0 _ _ (mT _)];simp [zB]
  |1,_=>
   rw [bB (by decide)];unfold oN;have h:=ix (t.length-1) (by omega);rw [show((t.length-(t.length-1):Nat):Int)=1 by omega]at h;rw [bM (by decide),h,bz,k2 1 _ _ (by omega)];have hne:t≠[]:=fun e=>by rw [e]at hl;simp at hl
   have Y:t.getLast? =some t[t.length-1]:=by rw [List.getLast?_eq_getElem?,vp (by omega)]
   have e:zB 1 t=some (t[t.length-1],-1,t.dropLast):=by
    show(match t.getLast? with|none=>none|some x=>some (x,(-1:Int),t.dropLast))=_;rw [Y]
   rw [e];simp only [Rl]
  |2,_=>
   rw [bM (by decide)];have h:=ix (t.length-2) (by omega);rw [show((t.length-(t.length-2):Nat):Int)=2 by omega]at h;have h' :=ix (t.length-1) (by omega);rw [show((t.length-(t.length-1):Nat):Int)=1 by omega]at h';rw [h,bz,h',bz];unfold oN;rw [bB (by decide),k2 2 _ _ (by omega)];have Y:t.getLast? =some t[t.length-1]:=by rw [List.getLast?_eq_getElem?,vp (by omega)]
   have hg2:t.dropLast.getLast? =some t[t.length-2]:=by
    rw [List.getLast?_eq_getElem?,List.length_dropLast,Rl,List.getElem?_take,bM (by omega),show t.length-1-1=t.length-2 by omega,vp (by omega)]
   have e:zB 2 t=some (t[t.length-2],t[t.length-1],t.dropLast.dropLast):=by
    show(match t.getLast? with|none=>none|some y=>match t.dropLast.getLast? with|none=>none|some x=>some (x,y,t.dropLast.dropLast))=_;rw [Y];simp only [hg2]
   rw [e];simp only;rw [show t.dropLast.dropLast=t.take (t.length-2) by rw [Rl,Rl,Ca,CJ];congr 1;omega]
def VA: ∀{n:Nat} {t:List Int} {x y:Int} {r:List Int},zB n t=some (x,y,r)->r.length<=t.length
 |0,t,x,y,r,h=>by
  have h:some (-1,-1,t)=some (x,y,r):=h;cases h;exact kE _
 |1,t,x,y,r,h=>by
  have h:(match t.getLast? with|none=>none|some x=>some (x,(-1:Int),t.dropLast))=some (x,y,r):=h
  cases Y:t.getLast? with
  |none=>rw [Y]at h;cases h
  |some z=>rw [Y]at h;cases h;simp
 |n+2,t,x,y,r,h=>by
  have h:(match t.getLast? with|none=>none|some y=>match t.dropLast.getLast? with|none=>none|some x=>some (x,y,t.dropLast.dropLast))=some (x,y,r):=h
  cases Y:t.getLast? with
  |none=>rw [Y]at h;cases h
  |some z=>
   rw [Y]at h;simp only at h
   cases hg2:t.dropLast.getLast? with
   |none=>rw [hg2]at h;cases h
   |some u=>rw [hg2]at h;cases h;simp;omega
def Jb(q:Pr α)(ar:α->Int)(put:α->Int->Int->α)(e:List Int×Int):Pr (α×List Int×Int):=fun l=>
 (q l).bind fun u=>if ar u.1<0 then none else(zB (ar u.1).toNat e.1).map fun w=>((put u.1 w.1 w.2.1,w.2.2++[e.2],e.2+1),u.2)
def adj{σ:Type}{g:bd->Option (α×bd)}{q:Pr α}(Y:ow b g q)(ar:α->Int)(har: ∀x,ar x<=2)(put:α->Int->Int->α)(mk:List α->σ)(N:Int)(hN:N<=65535)
  {L:Nat->List Int->Int->σ->bd->Option (σ×bd)}(hL: ∀fu t x out c,L (fu+1) t x (mk out) c=if(decide (x<N)&&(!c.B_))=true then(g c).bind fun u=>if decide (ar u.1<0)=true then some (mk out,({u.2 with B_:=true}:bd))else
    (o8 t (ar u.1) x).bind fun r=>(hU out [put u.1 r.2.1 r.2.2.1]).bind fun o2=>L fu r.1 (i64.wrap (x+1)) (mk o2) ({u.2 with B_:=(u.2.B_||(!r.2.2.2))}:bd)else some (mk out,c)):
  ow b (fun c=>L de [] 0 (mk []) c) (iH (fun xs=>mk xs) (fun l=>(nu (Jb q ar put) N.toNat ([],0) l).map fun u=>(u.1.1,u.2))):=by
 have hbad: ∀(fu:Nat) (t:List Int) (x:Int) (out:List α) (c:bd),UU b c-> ∃y c',L (fu+1) t x (mk out) c=some (y,c')/\UU b c' :=fun fu t x out c hn=>by
  rw [hL,bB (by rw [hn.2];simp)];exact⟨_,_,rfl,hn⟩
 have key: ∀(m i fu:Nat) (t:List Int) (out:List α) (k:Nat),i+m=N.toNat->m<fu->out.length<=i->t.length<=i->k<=b.length-> ∃y c,L fu t (i:Int) (mk out) (cu b k)=some (y,c)/\IQ b ((nu (Jb q ar put) m (t,(i:Int)) (b.drop k)).map fun u=>(mk (out++u.1.1),u.2)) y c:=by
  intro m
  induction m with
  |zero=>
   intro i fu t out k H W h3 h5 h4
   cases fu with
   |zero=>omega
   |succ fu=>
    rw [hL,bB (by simp;omega)];refine⟨_,_,rfl,?_⟩;unfold nu;simp only [nq,vW];exact⟨rfl,k,h4,rfl,rfl⟩
  |succ m ih=>
   intro i fu t out k H W h3 h5 h4
   cases fu with
   |zero=>omega
   |succ fu=>
    obtain⟨x,c1,g1,g2⟩:=Y.ok k h4;rw [hL,bM (by simp [cu];omega),g1,bz];unfold IQ at g2;unfold nu Jb;by_cases ha:ar x<0
    ·rw [bM (by simpa using ha)];refine⟨_,_,rfl,?_⟩
     cases hp:q (b.drop k)with
     |none=>
      rw [hp]at g2;exact⟨g2.1,rfl⟩
     |some v=>
      rw [hp]at g2;obtain⟨rfl,k1,h6,rfl,h7⟩:=g2;simp only [bz,bM ha];exact⟨rfl,rfl⟩
    ·have har2:=har x;obtain⟨n,hn⟩: ∃n:Nat,ar x=(n:Int):=⟨(ar x).toNat,by omega⟩;rw [bB (by simpa using ha),hn,TM t n (by omega) (by omega),bz,bZ (by simp;omega),bz,AH (by omega)]
     cases hp:q (b.drop k)with
     |none=>
      rw [hp]at g2
      cases fu with
      |zero=>omega
      |succ fu=>
       refine hbad fu _ _ _ _ ?_;exact⟨g2.1,by show(c1.B_||_)=true;rw [g2.2];rfl⟩
     |some v=>
      rw [hp]at g2;obtain⟨rfl,k1,h6,rfl,h7⟩:=g2;simp only [bz,bB ha];rw [hn,Cb]
      cases hps:zB n t with
      |none=>
       simp only [Option.map_none,Option.bind_none]
       cases fu with
       |zero=>omega
       |succ fu=>exact hbad fu _ _ _ _ ⟨rfl,rfl⟩
      |some w=>
       obtain⟨w1,w2,w3⟩:=w;simp only [nq,bz];have hw3:w3.length<=i:=z8 (VA hps) h5;obtain⟨y,c2,q1,q2⟩:=ih (i+1) fu (w3++[(i:Int)]) (out++[put v.1 w1 w2]) k1 (by omega) (by omega) (by simp;omega) (by simp;omega) h6;refine⟨y,c2,q1,?_⟩;rw [h7]at q2;have e1:((i:Int)+1)=((i+1:Nat):Int):=by omega
       rw [e1]
       cases hq:nu (Jb q ar put) m (w3++[(i:Int)],((i+1:Nat):Int)) v.2 with
       |none=>unfold Jb at hq;rw [show nu (fun e l=>(q l).bind fun u=>if ar u.1<0 then none else(zB (ar u.1).toNat e.1).map fun w=>((put u.1 w.1 w.2.1,w.2.2++[e.2],e.2+1),u.2)) m (w3++[(i:Int)],((i+1:Nat):Int)) v.2=none from hq];unfold Jb at q2;rw [hq]at q2;exact q2
       |some z=>
        unfold Jb at hq q2;rw [hq]at q2 ⊢;simp only [nq,bz,jR,Rk]at q2 ⊢;exact q2
 obtain⟨n,hn'⟩:=Eg;refine⟨fun k hk=>?_,fun c hn=>?_⟩
 ·obtain⟨y,c,H,W⟩:=key N.toNat 0 de [] [] k (by omega) (ur (by omega)) (kE _) (kE _) hk;refine⟨y,c,H,?_⟩;unfold iH;rw [Option.map_map];exact W
 ·rw [hn'];exact hbad n [] 0 [] c hn
end
section
def Vt: ∀(l:List Int) (n:Int),sV l n=some (l.foldl UL n)
 |[],n=>rfl
 |c::l,n=>by
  unfold sV;exact Vt l (UL n c)
def Ln{l:List Int}(h:qV l){k:Nat}(hk:k+8<=l.length):(dr l (k:Int) (l.length:Int)).bind lT=some (bn ((l.drop k).take 8)):=by
 rw [oK (by omega) (kE _),bz,EK];unfold lT;rw [show(8:Int)=((8:Nat):Int)from rfl,show(0:Int)=((0:Nat):Int)from rfl,oK (mT _) (by simp;omega),bz,yf,Vt];rw [show((0:Nat):Int)=0 from rfl,LK (pU (ka h k) 8) (by simp;omega)]
def zz{n:Nat}{l:List Int}(h:n<=l.length):pw n l=some (bn (l.take n),l.drop n):=by
 unfold pw;rw [bB (by omega)]
def Gy{n:Nat}{l:List Int}(h:l.length<n):pw n l=none:=by
 unfold pw;rw [bM h]
def oh{α β:Type}{p:Pr α}{q:α->Pr β}{l r:List Int}{x:α}(h:p l=some (x,r)):cE p q l=q x r:=by
 unfold cE;rw [h];rfl
def zC{α β:Type}{p:Pr α}{q:α->Pr β}{l:List Int}(h:p l=none):cE p q l=none:=by
 unfold cE;rw [h];rfl
def DX{β:Type}(c:Bool)(q:Unit->Pr β)(l:List Int):cE (yH c) q l=if c then q () l else none:=by
 unfold cE yH;cases c<;>rfl
def TC{n:Nat}{l:List Int}(h:n<=l.length):Ls n l=some (l.take n,l.drop n):=by
 unfold Ls;rw [bB (by omega)]
def TD{n:Nat}{l:List Int}(h:l.length<n):Ls n l=none:=by
 unfold Ls;rw [bM h]
def A1(v:aD)(l:List Int):D0 v l=if iM v then some (v,l)else none:=by
 unfold D0 cE yH;cases iM v<;>rfl
def Bs{α:Type}(l:List Int)(o:Option (α×List Int))(q:α×Int×Int):Prop:=
 match o with
 |some (v,rest)=> ∃k:Nat,k<=l.length/\q=(v,(k:Int),0)/\rest=l.drop k
 |none=>q.2.2≠0
def Ix{l:List Int}(hl:l.length<=900000000)(N':qV l): ∃q,lU l=some q/\Bs l (pv l) q:=by
 unfold lU
 match l,hl,N' with
 |[],_,_=>
  rw [bM (by decide)];refine⟨_,rfl,?_⟩;show(7:Int)≠0;decide
 |e::tl,hl,N'=>
  obtain⟨⟨n,hn,rfl⟩,hbt⟩:=pV N';have hpv:pv ((n:Int)::tl)=if n<=4 then yK (n:Int) tl else none:=by
   unfold pv;rw [oh (D3 N'),DX];by_cases h4:n<=4
   ·rw [bM h4,bM (by rw [mS];omega)]
   ·rw [bB h4,bB (by rw [mS];omega)]
  rw [bB (by simp;omega),hpv,show gw ((n:Int)::tl) (0:Int)=some (n:Int)from rfl,bz];by_cases h4:n<=4
  ·rw [bB (by rw [mS];omega),bM h4];have hw:i64.wrap (n:Int)=(n:Int):=by rw [kW];omega
   simp only [hw,jl];simp only [jl]at hl;have hone: ∀{v:aD} {p:Pr aD} {k:Nat},k<=tl.length->p tl=(if iM v then some (v,tl.drop k)else none)->(∃q,((ip v).bind fun r=>if(!r)then some ((⟨0,0,0,[]⟩:aD),(0:Int),(160:Int))else some (v,((k+1:Nat):Int),(0:Int)))=some q/\
     Bs ((n:Int)::tl) (p tl) q):=by
    intro v p k hk hp;rw [um,bz,hp]
    cases iM v with
    |true=>exact⟨_,rfl,k+1,by simp;omega,rfl,rfl⟩
    |false=>exact⟨_,rfl,show(160:Int)≠0 by decide⟩
   have hshort: ∀{p:Pr aD},p tl=none->(∃q,some ((⟨0,0,0,[]⟩:aD),(0:Int),(7:Int))=some q/\
     Bs ((n:Int)::tl) (p tl) q):=fun hp=>by
    rw [hp];exact⟨_,rfl,show(7:Int)≠0 by decide⟩
   have hcase:n=0\/n=1\/n=2\/n=3\/n=4:=by omega
   rcases hcase with rfl|rfl|rfl|rfl|rfl
   ·-- null
    rw [show gw ([(1:Int),2,9,2,17]) ((0:Nat):Int)=some 1 from rfl,bz,bB (by rw [mS];omega)];simp only [show(((0:Nat):Int)==(1:Int))=false from rfl,show(((0:Nat):Int)==(2:Int))=false from rfl,show(((0:Nat):Int)==(3:Int))=false from rfl,show(((0:Nat):Int)==(4:Int))=false from rfl,jc,hX];exact hone (p:=yK ((0:Nat):Int)) (k:=0) (mT _) (by
     unfold yK;simp only [show(((0:Nat):Int)==(1:Int))=false from rfl,show(((0:Nat):Int)==(2:Int))=false from rfl,show(((0:Nat):Int)==(3:Int))=false from rfl,show(((0:Nat):Int)==(4:Int))=false from rfl,jc,hX];rw [A1];rfl)
   ·-- a truth
    rw [show gw ([(1:Int),2,9,2,17]) ((1:Nat):Int)=some 2 from rfl,bz];have V:yK ((1:Nat):Int)=TF 1:=rfl;rw [V]
    match tl,hbt with
    |[],_=>
     rw [bM (by simp)];exact hshort (p:=TF 1) rfl
    |c::tl,hbt=>
     obtain⟨⟨m,hm,rfl⟩,hbt2⟩:=pV hbt;rw [bB (by simp;omega)];simp only [show(((1:Nat):Int)==(1:Int))=true from rfl,gQ];rw [show gw (((1:Nat):Int)::(m:Int)::tl) (1:Int)=some (m:Int)from rfl,bz,show i64.wrap (m:Int)=(m:Int) by rw [kW];omega];exact hone (p:=TF 1) (k:=1) (by simp) (by
      unfold TF;rw [oh (D3 hbt),A1];rfl)
   ·-- a number
    rw [show gw ([(1:Int),2,9,2,17]) ((2:Nat):Int)=some 9 from rfl,bz];have V:yK ((2:Nat):Int)=PR 2:=rfl;rw [V];by_cases h8:tl.length<8
    ·rw [bM (by rw [mS];omega)];exact hshort (p:=PR 2) (by unfold PR;rw [zC (Gy h8)])
    ·rw [bB (by rw [mS];omega)];simp only [show(((2:Nat):Int)==(1:Int))=false from rfl,show(((2:Nat):Int)==(2:Int))=true from rfl,jc,hX,gQ];have hr:=Ln N' (k:=1) (by simp;omega);simp only [jl]at hr;have hr2: ∀(hx:Int->Option (aD×Int×Int)),((dr (((2:Nat):Int)::tl) (1:Int) ((tl.length+1:Nat):Int)).bind fun y=>(lT y).bind hx)=hx (bn (tl.take 8)):=fun hx=>by
      rw [<-Dq,show(dr (((2:Nat):Int)::tl) (1:Int) ((tl.length+1:Nat):Int)).bind (fun x=>lT x)=_ from hr];rfl
     rw [hr2];exact hone (p:=PR 2) (k:=8) (by omega) (by
      unfold PR;rw [oh (zz (by omega)),A1];rfl)
   ·-- a text
    rw [show gw ([(1:Int),2,9,2,17]) ((3:Nat):Int)=some 2 from rfl,bz];have V:yK ((3:Nat):Int)=Nx 3:=rfl;rw [V]
    match tl,hbt with
    |[],_=>
     rw [bM (by simp)];exact hshort (p:=Nx 3) rfl
    |c::tl,hbt=>
     obtain⟨⟨m,hm,rfl⟩,hbt2⟩:=pV hbt;rw [bB (by simp;omega)];simp only [show(((3:Nat):Int)==(1:Int))=false from rfl,show(((3:Nat):Int)==(2:Int))=false from rfl,show(((3:Nat):Int)==(4:Int))=false from rfl,show(((3:Nat):Int)==(3:Int))=true from rfl,jc,hX,gQ];rw [show gw (((3:Nat):Int)::(m:Int)::tl) (1:Int)=some (m:Int)from rfl,bz];have hps:Nx 3 ((m:Int)::tl)=if m<=40 then Nw 3 (m:Int) tl else none:=by
      unfold Nx;rw [oh (D3 hbt)];unfold Vw;rw [DX];by_cases h40:m<=40
      ·rw [bM (by rw [mS];omega),bM h40]
      ·rw [bB (by rw [mS];omega),bB h40]
     by_cases h40:m<=40
     ·rw [bB (by rw [mS];omega),show i64.wrap (2+i64.wrap (m:Int))=((m+2:Nat):Int) by rw [kW,kW];omega];rw [bM h40]at hps;by_cases hlen:tl.length<m
      ·rw [bM (by rw [mS];simp;omega)];refine hshort (p:=Nx 3) ?_;rw [hps];unfold Nw;rw [Cb,zC (TD hlen)]
      ·rw [bB (by rw [mS];simp;omega)];have hsl:dr (((3:Nat):Int)::(m:Int)::tl) (2:Int) ((m+2:Nat):Int)=some (tl.take m):=by
        have:=oK (xs:=((3:Nat):Int)::(m:Int)::tl) (l:=2) (m:=m+2) (by omega) (by simp;omega);rw [show(2:Int)=((2:Nat):Int)from rfl,this];rfl
       rw [hsl,bz];exact hone (p:=Nx 3) (k:=m+1) (by simp;omega) (by
        rw [hps];unfold Nw;rw [Cb,oh (TC (by omega)),A1];rfl)
     ·rw [bM (by rw [mS];omega),hps,bB h40];exact⟨_,rfl,show(160:Int)≠0 by decide⟩
   ·-- a sum
    rw [show gw ([(1:Int),2,9,2,17]) ((4:Nat):Int)=some 17 from rfl,bz];have V:yK ((4:Nat):Int)=PL 4:=rfl;rw [V];by_cases h16:tl.length<16
    ·rw [bM (by rw [mS];omega)];refine hshort (p:=PL 4) ?_;unfold PL;by_cases h8:tl.length<8
     ·rw [zC (Gy h8)]
     ·rw [oh (zz (by omega))];unfold RE;rw [zC (Gy (by simp;omega))]
    ·rw [bB (by rw [mS];omega)];simp only [show(((4:Nat):Int)==(1:Int))=false from rfl,show(((4:Nat):Int)==(2:Int))=false from rfl,show(((4:Nat):Int)==(4:Int))=true from rfl,jc,hX,gQ];have hr:=Ln N' (k:=1) (by simp;omega);have hq:=Ln N' (k:=9) (by simp;omega);simp only [jl]at hr hq;have hr2: ∀(hx:Int->Option (aD×Int×Int)),((dr (((4:Nat):Int)::tl) (1:Int) ((tl.length+1:Nat):Int)).bind fun y=>(lT y).bind hx)=hx (bn (tl.take 8)):=fun hx=>by
      rw [<-Dq,show(dr (((4:Nat):Int)::tl) (1:Int) ((tl.length+1:Nat):Int)).bind (fun x=>lT x)=_ from hr];rfl
     have hq2: ∀(hx:Int->Option (aD×Int×Int)),((dr (((4:Nat):Int)::tl) (9:Int) ((tl.length+1:Nat):Int)).bind fun y=>(lT y).bind hx)=hx (bn ((tl.drop 8).take 8)):=fun hx=>by
      rw [<-Dq,show(dr (((4:Nat):Int)::tl) (9:Int) ((tl.length+1:Nat):Int)).bind (fun x=>lT x)=_ from hq];rfl
     rw [hr2,hq2];exact hone (p:=PL 4) (k:=16) (by omega) (by
      unfold PL;rw [oh (zz (by omega))];unfold RE;rw [oh (zz (by simp;omega)),A1,uH];rfl)
  ·rw [bM (by rw [mS];omega),bB h4];exact⟨_,rfl,show(160:Int)≠0 by decide⟩
end
section
def K5{b:List Int}{k:Nat}(hk:k<=b.length):dr b (k:Int) (b.length:Int)=some (b.drop k):=by
 rw [oK hk (kE _),EK]
def aa9{b:List Int}(hl:b.length<=900000000)(N':qV b)(e:Int)(he:e<=16): ∀(m x fu:Nat) (out:List aD) (k:Nat),(x:Int)+m=e->m<fu->out.length<=x->k<=b.length->
  ∃q,mM b e fu out (k:Int) (x:Int)=some q/\(match pl pv m (b.drop k)with
   |some (vs,rest)=> ∃j:Nat,j<=b.length/\q=(out++vs,(j:Int),0)/\rest=b.drop j
   |none=>q.2.2≠0):=by
 intro m
 induction m with
 |zero=>
  intro x fu out k H W h3 h4
  cases fu with
  |zero=>omega
  |succ fu=>
   unfold mM;rw [bB (by rw [mS];omega)];exact⟨_,rfl,k,h4,by rw [vW],rfl⟩
 |succ m ih=>
  intro x fu out k H W h3 h4
  cases fu with
  |zero=>omega
  |succ fu=>
   unfold mM;rw [bM (by rw [mS];omega),K5 h4,bz];obtain⟨q,g1,g2⟩:=Ix (l:=b.drop k) (by simp;omega) (ka N' k);rw [g1,bz];unfold pl;unfold Bs at g2
   cases hp:pv (b.drop k)with
   |none=>
    rw [hp]at g2;have g2:q.2.2≠0:=g2;rw [bM (by simpa using g2)];exact⟨_,rfl,g2⟩
   |some v=>
    obtain⟨v1,v2⟩:=v;rw [hp]at g2;obtain⟨j,hj,rfl,rfl⟩:=g2;rw [Ao]at hj;rw [bB (by simp),bZ (by simp;omega),bz,show i64.wrap ((k:Int)+(j:Int))=((k+j:Nat):Int) by rw [kW];omega,show u8.wrap ((x:Int)+1)=((x+1:Nat):Int) by rw [xq];omega];obtain⟨q,r1,r2⟩:=ih (x+1) fu (out++[v1]) (k+j) (by omega) (by omega) (by simp;omega) (by omega);refine⟨q,r1,?_⟩;simp only [bz,uH]
    cases hq:pl pv m (b.drop (k+j))with
    |none=>rw [hq]at r2;exact r2
    |some w=>
     rw [hq]at r2;simp only [jR,Rk]at r2;exact r2
def Xn{b:List Int}(hl:b.length<=900000000)(N':qV b): ∃q,vf b=some q/\Bs b (I8 b) q:=by
 unfold vf I8
 match b,hl,N' with
 |[],_,_=>
  rw [bM (by decide)];exact⟨_,rfl,show(7:Int)≠0 by decide⟩
 |e::tl,hl,N'=>
  obtain⟨⟨n,hn,rfl⟩,hbt⟩:=pV N';rw [bB (by simp;omega),show gw ((n:Int)::tl) (0:Int)=some (n:Int)from rfl,bz,oh (D3 N'),DX];by_cases h:n<=16
  ·rw [bB (by rw [mS];omega),bM (by rw [mS];omega),Cb];obtain⟨q,g1,g2⟩:=aa9 hl N' (n:Int) (by omega) n 0 de [] 1 (by omega) (ur (by omega)) (kE _) (by simp);refine⟨q,g1,?_⟩;unfold Bs;rw [show List.drop 1 ((n:Int)::tl)=tl from rfl]at g2
   cases hq:pl pv n tl with
   |none=>rw [hq]at g2;exact g2
   |some w=>rw [hq]at g2;exact g2
  ·rw [bM (by rw [mS];omega),bB (by rw [mS];omega)];exact⟨_,rfl,show(160:Int)≠0 by decide⟩
def Yr{b:List Int}(hl:b.length<=900000000)(N':qV b)(e e1:Int)(N:Nat)(hN:i64.wrap ((i64.wrap ((i64.wrap e)*(256:Int)))+(i64.wrap e1))=(N:Int))(h4:N<=400): ∀(m x fu:Nat) (out:List (List aD)) (k:Nat),x+m=N->m<fu->out.length<=x->k<=b.length->
  ∃q,lK b e e1 fu out (k:Int) (x:Int)=some q/\(match pl I8 m (b.drop k)with
   |some (vs,rest)=> ∃j:Nat,j<=b.length/\q=(out++vs,(j:Int),0)/\rest=b.drop j
   |none=>q.2.2≠0):=by
 intro m
 induction m with
 |zero=>
  intro x fu out k H W h3 h4
  cases fu with
  |zero=>omega
  |succ fu=>
   unfold lK;rw [hN,bB (by rw [mS];omega)];exact⟨_,rfl,k,h4,by rw [vW],rfl⟩
 |succ m ih=>
  intro x fu out k H W h3 h4
  cases fu with
  |zero=>omega
  |succ fu=>
   unfold lK;rw [hN,bM (by rw [mS];omega),K5 h4,bz];obtain⟨q,g1,g2⟩:=Xn (b:=b.drop k) (by simp;omega) (ka N' k);rw [g1,bz];unfold pl;unfold Bs at g2
   cases hp:I8 (b.drop k)with
   |none=>
    rw [hp]at g2;have g2:q.2.2≠0:=g2;rw [bM (by simpa using g2)];exact⟨_,rfl,g2⟩
   |some v=>
    obtain⟨v1,v2⟩:=v;rw [hp]at g2;obtain⟨j,hj,rfl,rfl⟩:=g2;rw [Ao]at hj;rw [bB (by simp),bZ (by simp;omega),bz,show i64.wrap ((k:Int)+(j:Int))=((k+j:Nat):Int) by rw [kW];omega,show i64.wrap ((x:Int)+1)=((x+1:Nat):Int) by rw [kW];omega];obtain⟨q,r1,r2⟩:=ih (x+1) fu (out++[v1]) (k+j) (by omega) (by omega) (by simp;omega) (by omega);refine⟨q,r1,?_⟩;simp only [bz,uH]
    cases hq:pl I8 m (b.drop (k+j))with
    |none=>rw [hq]at r2;exact r2
    |some w=>
     rw [hq]at r2;simp only [jR,Rk]at r2;exact r2
def Ut{b:List Int}(hl:b.length<=900000000)(N':qV b): ∃q,rk b=some q/\Bs b (Cv b) q:=by
 unfold rk Cv
 match b,hl,N' with
 |[],_,_=>
  rw [bM (by decide)];exact⟨_,rfl,show(7:Int)≠0 by decide⟩
 |[c],_,_=>
  rw [bM (by simp)];exact⟨_,rfl,show(7:Int)≠0 by decide⟩
 |e::e1::tl,hl,N'=>
  obtain⟨⟨n,hn,rfl⟩,hbt⟩:=pV N';obtain⟨⟨m,hm,rfl⟩,hbt2⟩:=pV hbt;have hN:i64.wrap ((i64.wrap ((i64.wrap (n:Int))*(256:Int)))+(i64.wrap (m:Int)))=((n*256+m:Nat):Int):=by rw [kW,kW,kW,kW];omega
  have h16:Ya ((n:Int)::(m:Int)::tl)=some (((n*256+m:Nat):Int),tl):=by
   unfold Ya iH;rw [zz (by simp)];have hbn:bn (List.take 2 ((n:Int)::(m:Int)::tl))=((n*256+m:Nat):Int):=by
    show(n:Int)*256^1+((m:Int)*256^0+0)=_;rw [Int.pow_succ,Int.pow_zero];omega
   rw [hbn];have hz:i64.wrap (u16.wrap ((n*256+m:Nat):Int))=((n*256+m:Nat):Int):=by rw [wrap_u16,kW];omega
   show some (i64.wrap (u16.wrap ((n*256+m:Nat):Int)),tl)=_;rw [hz]
  rw [bB (by simp;omega),show gw ((n:Int)::(m:Int)::tl) (0:Int)=some (n:Int)from rfl,bz,show gw ((n:Int)::(m:Int)::tl) (1:Int)=some (m:Int)from rfl,bz,oh h16,DX,hN];by_cases h:n*256+m<=400
  ·rw [bB (by rw [mS];omega),bM (by rw [mS];omega),Cb];obtain⟨q,g1,g2⟩:=Yr hl N' (n:Int) (m:Int) (n*256+m) hN h (n*256+m) 0 de [] 2 (by omega) (ur (by omega)) (kE _) (by simp);refine⟨q,g1,?_⟩;unfold Bs;rw [show List.drop 2 ((n:Int)::(m:Int)::tl)=tl from rfl]at g2
   cases hq:pl I8 (n*256+m) tl with
   |none=>rw [hq]at g2;exact g2
   |some w=>rw [hq]at g2;exact g2
  ·rw [bM (by rw [mS];omega),bB (by rw [mS];omega)];exact⟨_,rfl,show(160:Int)≠0 by decide⟩
def TW(b:List Int)(hl:b.length<=900000000)(w:Nat)(k:Nat)(hk:k+w<=b.length): ∀(m i fu:Nat) (n:Int),i+m=w->m<fu->iZ (cu b k) (w:Int) fu n (i:Int)=some (((b.drop (k+i)).take m).foldl UL n,cu b (k+w)):=by
 intro m
 induction m with
 |zero=>
  intro i fu n H W
  cases fu with
  |zero=>omega
  |succ fu=>
   unfold iZ;rw [bB (by rw [mS];omega)];have e:i64.wrap ((cu b k).At+(w:Int))=((k+w:Nat):Int):=by show i64.wrap ((k:Int)+(w:Int))=_;rw [kW];omega
   rw [e];rfl
 |succ m ih=>
  intro i fu n H W
  cases fu with
  |zero=>omega
  |succ fu=>
   unfold iZ;obtain⟨e,he⟩:=yU (b:=b) (k:=k+i) (by omega);have e1:i64.wrap ((cu b k).At+(i:Int))=((k+i:Nat):Int):=by show i64.wrap ((k:Int)+(i:Int))=_;rw [kW];omega
   rw [bM (by rw [mS];omega),e1,show gw (cu b k).Bytes ((k+i:Nat):Int)=some e from GD he,bz,AH (by omega)];have:=ih (i+1) fu (UL n e) (by omega) (by omega);rw [he,List.take_succ_cons,List.foldl_cons];exact this
def yO{b:List Int}(hl:b.length<=900000000)(N':qV b)(w:Nat)(hw:w<=8):ow b (fun c=>bW c (w:Int)) (pw w):=by
 refine⟨fun k hk=>?_,fun c hn=>?_⟩
 ·show∃x c,bW (cu b k) (w:Int)=some (x,c)/\_;unfold bW;have e:i64.wrap ((cu b k).At+(w:Int))=((k+w:Nat):Int):=by show i64.wrap ((k:Int)+(w:Int))=_;rw [kW];omega
  rw [e];by_cases h:b.length<k+w
  ·rw [bM (by show(false||decide ((b.length:Int)<_))=true;simp;omega),Gy (by simp;omega)];exact⟨_,_,rfl,rfl,rfl⟩
  ·rw [bB (by show¬(false||decide ((b.length:Int)<_))=true;simp;omega),zz (by simp;omega),show(0:Int)=((0:Nat):Int)from rfl,TW b hl w k (by omega) w 0 de _ (by omega) (ur (by omega))];refine⟨_,_,rfl,?_,k+w,by omega,rfl,by rw [uH]⟩;rw [Du];exact LK (pU (ka N' k) w) (by simp;omega)
 ·refine⟨0,{c with B_:=true},?_,hn.1,rfl⟩;show bW c (w:Int)=_;unfold bW;rw [bM (by rw [hn.2];rfl)]
def Lp{l:List Int}(h:qV l):(p8 l)=iH (fun x=>i64.wrap x) (pw 1) l:=by
 unfold p8 iH
 match l,h with
 |[],_=>rfl
 |c::l,h=>
  obtain⟨⟨n,H,rfl⟩,W⟩:=pV h;rw [zz (by simp)];show some (i64.wrap (u8.wrap _),_)=some (i64.wrap _,_);have e:bn (List.take 1 ((n:Int)::l))=(n:Int):=by
   show(n:Int)*256^0+0=_;rw [Int.pow_zero];omega
  rw [e,xq];congr 3;omega
def xz{b:List Int}(hl:b.length<=900000000)(N':qV b):ow b br p8:=
 (((yO hl N' 1 (by omega)).map (fun x=>i64.wrap x)).congr fun c=>rfl).pcongr fun k hk=>Lp (ka N' k)
def RK{l:List Int}{x:Int}{r:List Int}(h:p8 l=some (x,r)):iT x:=by
 unfold p8 iH at h
 cases hq:pw 1 l with
 |none=>rw [hq]at h;cases h
 |some u=>
  rw [hq]at h;cases h;unfold iT;show 0<=i64.wrap (u8.wrap u.1)/\i64.wrap (u8.wrap u.1)<=255;rw [xq,kW];omega
def AI{b:List Int}(hl:b.length<=900000000)(N':qV b):(∀k,k<=b.length-> ∀x c',br (cu b k)=some (x,c')->iT x)/\(∀c,UU b c-> ∀x c',br c=some (x,c')->iT x):=by
 have hz: ∀c:bd,c.B_=true\/(c.Bytes.length:Int)<i64.wrap (c.At+1)-> ∀x c',br c=some (x,c')->iT x:=fun c h x c' K=>by
  unfold br bW at K;rw [bM (by rcases h with h|h;rw [h];rfl;simp [h])]at K;cases K;show 0<=i64.wrap 0/\i64.wrap 0<=255;decide
 refine⟨fun k hk x c' h=>?_,fun c hn x c' h=>hz c (.inl hn.2) x c' h⟩;obtain⟨y,c2,g1,g2⟩:=(xz hl N').ok k hk;rw [g1]at h;cases h;unfold IQ at g2
 cases hp:p8 (b.drop k)with
 |some v=>rw [hp]at g2;rw [g2.1];exact RK hp
 |none=>
  have hlen:b.length<k+1:=by
   cases pj b.length (k+1)with
   |inl h=>exact h
   |inr h=>
    obtain⟨e,he⟩:=yU (b:=b) (k:=k) (by omega);have:=ka N' k;rw [he]at this hp;rw [D3 this]at hp;cases hp
  refine hz (cu b k) (.inr ?_) x c' g1;show(b.length:Int)<i64.wrap ((k:Int)+1);rw [kW];omega
def LN{b:List Int}(hl:b.length<=900000000)(N':qV b):ow b fV yI:=by
 have hs:=yO hl N' 1 (by omega);refine⟨fun k hk=>?_,fun c hn=>?_⟩
 ·obtain⟨x,c1,g1,g2⟩:=hs.ok k hk;have g1:bW (cu b k) 1=some (x,c1):=g1;unfold fV lu yI;rw [g1,bz,Lp (ka N' k)];unfold IQ at g2;unfold iH
  cases hp:pw 1 (b.drop k)with
  |none=>
   rw [hp]at g2;simp only [Option.map_none,Option.bind_none];split
   ·exact⟨_,_,rfl,g2.1,rfl⟩
   ·exact⟨_,_,rfl,g2⟩
  |some v=>
   rw [hp]at g2;obtain⟨rfl,k1,H,rfl,W⟩:=g2;have hb8:p8 (b.drop k)=some (i64.wrap v.1,v.2):=by rw [Lp (ka N' k)];unfold iH;rw [hp];rfl
   have hbyte:=RK hb8;have hv:i64.wrap v.1=v.1:=by
    unfold pw at hp;split at hp
    ·cases hp
    ·cases hp;have hh:=Xh (pU (ka N' k) 1);have hle:(256:Int)^(List.take 1 (b.drop k)).length<=256^1:=by
      have H:(List.take 1 (b.drop k)).length<=1:=by simp;omega
      match hh:(List.take 1 (b.drop k)).length,H with
      |0,_=>decide
      |1,_=>decide
     show i64.wrap (bn _)=bn _;rw [kW];rw [Int.pow_succ,Int.pow_zero]at hle;omega
   simp only [nq,bz];rw [hv];by_cases h1' :1<v.1
   ·rw [bM (by simpa using h1'),bM h1'];exact⟨_,_,rfl,rfl,rfl⟩
   ·rw [bB (by simpa using h1'),bB h1'];exact⟨_,_,rfl,rfl,k1,H,rfl,W⟩
 ·obtain⟨x,c1,g1,g2⟩:=hs.no c hn;have g1:bW c 1=some (x,c1):=g1;unfold fV lu;rw [g1,bz];split
  ·exact⟨_,_,rfl,g2.1,rfl⟩
  ·exact⟨_,_,rfl,g2⟩
def HF{α:Type}(p:Pr α):cE p (fun x l=>some (x,l))=p:=by
 funext l;unfold cE;cases p l<;>rfl
def E6{b:List Int}(hl:b.length<=900000000)(N':qV b):ow b iN E2:=by
 have hs:=xz hl N';obtain⟨H,W⟩:=AI hl N';have:=B0 (g:=fun n c=>gb (n,c) de [] 0 c) iT H W hs fun n hn=>by
  have:=aan hs (fun out=>out) (fin:=fun bx c=>some (bx,c)) (pf:=fun xs l=>some (xs,l)) (fun xs=>vI xs) n (by have:=hn.2;omega) (L:=fun fu x bx c=>gb (n,cu b 0) fu bx x c) (fun fu x out c=>rfl);rw [HF]at this;have e: ∀(c0:bd) (fu:Nat) (bx:List Int) (x:Int) (c:bd),gb (n,c0) fu bx x c=gb (n,cu b 0) fu bx x c:=by
   intro c0 fu
   induction fu with
   |zero=>intro bx x c;rfl
   |succ fu ih=>
    intro bx x c;unfold gb;simp only [ih]
  exact this.congr fun c=>e c _ _ _ _
 exact this.congr fun c=>rfl
end
section
def qx:Pr bw:=cE p8 fun x=>if(x==2)=true then iH (fun c=>(⟨x,0,0,c,vZ⟩:bw)) p8 else if(x==1)=true then iH (fun v=>(⟨x,0,0,0,v⟩:bw)) pv else fun l=>some (⟨x,0,0,0,vZ⟩,l)
def Nv(n:bw)(a b:Int):bw:=⟨n.Tag,a,b,n.o_,n.Value⟩
def pmD{α:Type}(q:Pr α)(ar:α->Int)(put:α->Int->Int->α)(N:Int):Pr (List α):=fun l=>(nu (Jb q ar put) N.toNat ([],0) l).map fun u=>(u.1.1,u.2)
def arE(n:bw):Int:=BK n.Tag
def sJ:Pr bQ:=cE Ya fun n=>iH bQ.mk (pmD qx arE Nv n)
def NK(aa:Pr bQ):Pr f9:=cE p8 fun f=>iH (f9.mk f) aa
def D1(aa:Pr bQ)(x:Int):Pr al:=
 if(x==1||x==9)=true then cE p8 fun t=>iH (fun ks=>⟨x,0,0,t,ks,false,⟨[]⟩,[],[],[],[],0⟩) E2
 else if(x==2)=true then cE yI fun f=>iH (fun c=>⟨x,0,0,0,[],f,c,[],[],[],[],0⟩) aa
 else if(x==3)=true then iH (fun c=>⟨x,0,0,0,[],false,c,[],[],[],[],0⟩) aa
 else if(x==4||x==10||x==11)=true then cE E2 fun ks=>iH (fun a=>⟨x,0,0,0,[],false,⟨[]⟩,ks,a,[],[],0⟩) (yq (NK aa))
 else if(x==5)=true then iH (fun a=>⟨x,0,0,0,[],false,⟨[]⟩,[],[],a,[],0⟩) (yq aa)
 else if(x==8)=true then cE (yq PM) fun a=>iH (fun l=>⟨x,0,0,0,[],false,⟨[]⟩,[],[],[],a,Jj l⟩) X9
 else fun l=>some (⟨x,0,0,0,[],false,⟨[]⟩,[],[],[],[],0⟩,l)
def I6(n:al)(a b:Int):al:=⟨n.Op,a,b,n.Table,n.A',n.Left,n.c_,n.v',n.u',n.D',n.B',n.J'⟩
def XG(n:al):Int:=prt n.Op
def Lv:Pr dl:=cE p8 fun a=>cE p8 fun w=>cE E2 fun cs=>cE p8 fun n=>iH (fun ns=>dl.mk ns a w cs) (pmD (cE p8 (D1 sJ)) XG I6 n)
def Lt:Pr iG:=iH iG.mk (yq Lv)
def VC(k f t e:Int):Pr cH:=
 if(k==1)=true then cE p8 fun bx=>iH (fun p=>(⟨k,f,t,e,0,bx,p,Pf,0⟩:cH)) Lt
 else if(k==3)=true then cE p8 fun g=>iH (fun p=>(⟨k,f,t,e,g,0,⟨[]⟩,p,0⟩:cH)) (D2 1)
 else if(k==4)=true then cE p8 fun g=>iH (fun p=>(⟨k,f,t,e,g,0,⟨[]⟩,p,0⟩:cH)) (D2 2)
 else if(k==5)=true then iH (fun c:Bool=>(⟨k,f,t,e,0,0,⟨[]⟩,Pf,if c=true then 300 else 140⟩:cH)) yI
 else fun l=>some (⟨k,f,t,e,0,0,⟨[]⟩,Pf,0⟩,l)
def J3:Pr cH:=cE p8 fun k=>cE p8 fun f=>cE p8 fun t=>cE p8 fun e=>VC k f t e
variable{b:List Int}
def Iz{α:Type}{F:bd->bd->Option (α×bd)}{p:Pr α}(h: ∀c0,ow b (F c0) p):ow b (fun c=>F c c) p:=⟨fun k hk=>(h (cu b k)).ok k hk,fun c hn=>(h c).no c hn⟩
def tkC{α:Type}(T:List Int->Option (α×Int×Int))(x0:α)(c:bd):Option (α×bd):=
 if(!c.B_)=true then(dr c.Bytes c.At (c.Bytes.length:Int)).bind fun y=>(T y).bind fun r=>some (r.1,⟨c.Bytes,i64.wrap (c.At+r.2.1),r.2.2 !=0⟩)else some (x0,c)
def Vi{α:Type}{T:List Int->Option (α×Int×Int)}{p:Pr α}(hT: ∀{l:List Int},l.length<=900000000->qV l-> ∃q,T l=some q/\Bs l (p l) q)(hl:b.length<=900000000)(N':qV b)(x0:α):ow b (tkC T x0) p:=by
 refine⟨fun k hk=>?_,fun c hn=>⟨x0,c,?_,hn⟩⟩
 ·obtain⟨q,H,W⟩:=hT (l:=b.drop k) (by simp;omega) (ka N' k);have e:tkC T x0 (cu b k)=some (q.1,⟨b,i64.wrap ((k:Int)+q.2.1),q.2.2 !=0⟩):=by
   show(dr b (k:Int) (b.length:Int)).bind _=_;rw [K5 hk,bz,H];rfl
  refine⟨_,_,e,?_⟩;unfold Bs at W;unfold IQ
  cases hp:p (b.drop k)with
  |none=>
   rw [hp]at W;have W:q.2.2≠0:=W;exact⟨rfl,by simpa using W⟩
  |some v=>
   obtain⟨v,rest⟩:=v;rw [hp]at W;obtain⟨j,hj,rfl,rfl⟩:=W;rw [Ao]at hj;refine⟨rfl,k+j,by omega,?_,by rw [uH]⟩;unfold cu;rw [show i64.wrap ((k:Int)+(j:Int))=((k+j:Nat):Int) by rw [kW];omega];rfl
 ·unfold tkC;rw [hn.2];rfl
def Qb(hl:b.length<=900000000)(N':qV b){c c' :bd}(hc:(∃k,k<=b.length/\c=cu b k)\/UU b c){x:Int}{w:Nat}(hw:w<=8)(h:bW c (w:Int)=some (x,c')):x=0\/ ∃l,qV l/\l.length<=w/\x=bn l:=by
 by_cases V:(c.B_||decide ((c.Bytes.length:Int)<i64.wrap (c.At+(w:Int))))=true
 ·unfold bW at h;rw [bM V]at h;cases h;exact .inl rfl
 ·rcases hc with⟨k,hk,rfl⟩|hn
  ·obtain⟨y,c2,g1,g2⟩:=(yO hl N' w hw).ok k hk;have g1:bW (cu b k) (w:Int)=some (y,c2):=g1;rw [g1]at h;cases h;have hkw: ¬(b.drop k).length<w:=by
    intro hh;apply V;have e:i64.wrap ((cu b k).At+(w:Int))=((k+w:Nat):Int):=by show i64.wrap ((k:Int)+(w:Int))=_;rw [kW];omega
    rw [e];rw [Ao]at hh;show(false||decide ((b.length:Int)<_))=true;rw [ta,mS];omega
   unfold IQ pw at g2;rw [bB hkw]at g2;exact .inr ⟨_,pU (ka N' k) w,by rw [Ca];omega,g2.1⟩
  ·rw [hn.2]at V;exact absurd rfl V
def Ir{l:List Int}(h:qV l){w:Nat}(hl:l.length<=w):0<=bn l/\bn l<256^w:=by
 obtain⟨H,W⟩:=Xh h;have:(256:Nat)^l.length<=256^w:=Nat.pow_le_pow_right (by omega) hl;have h9:((256:Nat):Int)^l.length<=((256:Nat):Int)^w:=by rw [<-Int.natCast_pow,<-Int.natCast_pow];exact Int.ofNat_le.2 this
 exact⟨H,Int.lt_of_lt_of_le W h9⟩
def abe(t:Int):BK t<=2:=by
 unfold BK pk;repeat' split
 all_goals first|omega|(rename_i h;repeat' split at h)<;>simp at h<;>omega
section
variable(hl:b.length<=900000000)(N':qV b)
include hl N'
def afO:ow b (fun c=>(bW c 2).bind fun u=>some (i64.wrap u.1,u.2)) Ya:=
 ((yO hl N' 2 (by omega)).map fun x=>i64.wrap x).pcongr fun k hk=>by
  unfold Ya iH pw;split
  ·rfl
  ·have h:=Ir (pU (ka N' k) 2) (w:=2) (by rw [Ca];omega);rw [show(256:Int)^2=65536 from rfl]at h;simp only [nq];rw [show u16.wrap (bn (List.take 2 (b.drop k)))=bn (List.take 2 (b.drop k)) by rw [wrap_u16];omega]
def RR: ∀c,((∃k,k<=b.length/\c=cu b k)\/UU b c)-> ∀x c',((bW c 2).bind fun u=>some (i64.wrap u.1,u.2))=some (x,c')->KQ x:=fun c hc x c' h=>by
 obtain⟨u,H,W⟩:=bs h;cases W;unfold KQ;rcases Qb hl N' hc (w:=2) (by omega) H with h|⟨l,g1,g2,g3⟩
 ·rw [h];exact⟨by decide,by decide⟩
 ·have h:=Ir g1 g2;rw [show(256:Int)^2=65536 from rfl]at h;rw [g3,kW];omega
def adm{α:Type}(f:Int->α):ow b (fun c=>(bW c 4).bind fun u=>some (f u.1,u.2)) (iH f X9):=
 ((yO hl N' 4 (by omega)).map f).pcongr fun k hk=>by
  unfold X9 iH pw;split
  ·rfl
  ·have h:=Ir (pU (ka N' k) 4) (w:=4) (by rw [Ca];omega);rw [show(256:Int)^4=4294967296 from rfl]at h;simp only [nq];rw [show u32.wrap (bn (List.take 4 (b.drop k)))=bn (List.take 4 (b.drop k)) by rw [GP];omega]
def gxC(c:bd):Option (bw×bd):=(br c).bind fun u=>if(u.1==2)=true then(br u.2).bind fun w=>some (⟨u.1,0,0,w.1,vZ⟩,w.2)
 else if(u.1==1)=true then(tkC lU vZ u.2).bind fun w=>some (⟨u.1,0,0,0,w.1⟩,w.2)else some (⟨u.1,0,0,0,vZ⟩,u.2)
def afR:ow b gxC qx:=by
 have hs:=xz hl N';exact hs.bind fun x=>qS (x==2) (hs.map fun c=>(⟨x,0,0,c,vZ⟩:bw)) (qS (x==1) ((Vi Ix hl N' vZ).map fun v=>(⟨x,0,0,0,v⟩:bw)) (vI (⟨x,0,0,0,vZ⟩:bw)))
omit hl N' in
def Sm{r r' :Int×bd}(h:i64.wrap r.1=i64.wrap r'.1): ∀fu,dp r fu=dp r' fu
 |0=>rfl
 |fu+1=>by
  funext t x y out c;unfold dp;rw [Sm h fu,h]
omit hl N' in
def Z1(r:Int×bd)(fu:Nat)(t:List Int)(x:Int)(y:bQ)(out:List bw)(c:bd):dp r (fu+1) t x y ⟨out⟩ c=if(decide (x<i64.wrap r.1)&&(!c.B_))=true then(gxC c).bind fun u=>if decide (arE u.1<0)=true then some (⟨out⟩,({u.2 with B_:=true}:bd))else
    (o8 t (arE u.1) x).bind fun r1=>(hU out [Nv u.1 r1.2.1 r1.2.2.1]).bind fun o2=>dp r fu r1.1 (i64.wrap (x+1)) y ⟨o2⟩ ({u.2 with B_:=(u.2.B_||(!r1.2.2.2))}:bd)else some (⟨out⟩,c):=by
 conv=>lhs;unfold dp
 split
 ·unfold gxC
  cases br c with
  |none=>rfl
  |some u=>
   simp only [bz];by_cases W:(u.1==2)=true
   ·simp only [W,gQ];have H:(u.1==1)=false:=by rw [oJ]at W;rw [W];rfl
    cases br u.2 with
    |none=>rfl
    |some w=>
     simp only [bz];unfold lv;simp only [H,Bool.false_and,jc,hX];unfold iO;rw [ly];rfl
   ·simp only [W,jc,hX];unfold lv;by_cases H:(u.1==1)=true
    ·simp only [H,gQ,o4];unfold tkC
     cases V:u.2.B_ with
     |true=>
      simp only [uc,jc,hX,bz];unfold iO;rw [ly];rfl
     |false=>
      simp only [Ab,gQ]
      cases dr u.2.Bytes u.2.At (u.2.Bytes.length:Int)with
      |none=>rfl
      |some y=>
       simp only [bz]
       cases lU y with
       |none=>rfl
       |some q=>
        simp only [bz];unfold iO;rw [ly];rfl
    ·simp only [H,Bool.false_and,jc,hX,bz];unfold iO;rw [ly];rfl
 ·rfl
def QQ:ow b gL sJ:=by
 have:=B0 (g:=fun n c=>dp (n,c) de [] 0 ⟨[]⟩ ⟨[]⟩ c) (q:=fun n=>iH bQ.mk (pmD qx arE Nv n)) KQ (fun k hk=>RR hl N' _ (.inl ⟨k,hk,rfl⟩)) (fun c hn=>RR hl N' c (.inr hn)) (afO hl N') fun n hn=>Iz fun c0=>by
  have hw:i64.wrap n=n:=by rw [kW];unfold KQ at hn;omega
  refine adj (afR hl N') arE (fun x=>abe _) Nv bQ.mk n hn.2 (L:=fun fu t x bx c=>dp (n,c0) fu t x ⟨[]⟩ bx c) fun fu t x out c=>?_;have:=Z1 (n,c0) fu t x ⟨[]⟩ out c;rw [show i64.wrap (n,c0).1=n from hw]at this;exact this
 refine this.congr fun c=>?_;unfold gL
 cases bW c 2 with
 |none=>rfl
 |some u=>
  show dp u de _ _ _ _ _=dp _ de _ _ _ _ _;rw [Sm (r:=u) (r' :=(i64.wrap u.1,u.2)) (by show _=i64.wrap (i64.wrap u.1);rw [kW,kW];omega) de]
end
end
section
def ot{α:Type}(p q:Pr α)(ok:α->Prop):Prop:= ∀l u,q l=some u↔p l=some u/\ok u.1
variable{α β:Type}
def ot.same(p:Pr α):ot p p (fun _=>True):=fun l u=>⟨fun h=>⟨h,trivial⟩,fun h=>h.1⟩
def ot.bind{p q:Pr α}{ok:α->Prop}{g h:α->Pr β}{ok2:β->Prop}(hp:ot p q ok)(Y: ∀x,ok x->ot (g x) (h x) ok2)(hn: ∀x l y,g x l=some y->ok2 y.1->ok x):ot (cE p g) (cE q h) ok2:=by
 intro l u;unfold cE;constructor
 ·intro hu;obtain⟨v,H,W⟩:=bs hu;obtain⟨h3,h4⟩:=(hp l v).1 H;obtain⟨h5,h6⟩:=(Y _ h4 v.2 u).1 W;exact⟨by rw [h3,bz];exact h5,h6⟩
 ·rintro⟨hu,hk⟩;obtain⟨v,H,W⟩:=bs hu;have h4:=hn _ _ _ W hk;rw [(hp l v).2 ⟨H,h4⟩,bz];exact(Y _ h4 v.2 u).2 ⟨W,hk⟩
def mD{p:Pr α}{g h:α->Pr β}{ok2:β->Prop}(Y: ∀x,ot (g x) (h x) ok2):ot (cE p g) (cE p h) ok2:=(ot.same p).bind (fun x _=>Y x) fun _ _ _ _ _=>trivial
def ot.map{p q:Pr α}{ok:α->Prop}{f:α->β}{ok2:β->Prop}(hp:ot p q ok)(e: ∀x,ok2 (f x)↔ok x):ot (iH f p) (iH f q) ok2:=by
 intro l u;unfold iH;simp only [Rn];constructor
 ·rintro⟨v,H,rfl⟩;obtain⟨h3,h4⟩:=(hp l v).1 H;exact⟨⟨v,h3,rfl⟩,(e _).2 h4⟩
 ·rintro⟨⟨v,H,rfl⟩,W⟩;exact⟨v,(hp l v).2 ⟨H,(e _).1 W⟩,rfl⟩
def EI{x:α}{ok:α->Prop}(h:ok x):ot (fun l=>some (x,l)) (fun l=>some (x,l)) ok:=fun l u=>⟨fun hu=>⟨hu,by cases hu;exact h⟩,fun hu=>hu.1⟩
def vo{p q p2 q2:Pr α}{ok:α->Prop}(c:Bool)(h:ot p q ok)(W:ot p2 q2 ok):ot (if c=true then p else p2) (if c=true then q else q2) ok:=by
 cases c with
 |true=>exact h
 |false=>exact W
def IL{E:Type}{p q:E->Pr (α×E)}{ok:α->Prop}(h: ∀e,ot (p e) (q e) (fun u=>ok u.1)): ∀n e,ot (nu p n e) (nu q n e) (fun u=> ∀x∈u.1,ok x)
 |0,e=>EI fun x K=>by cases K
 |n+1,e=>fun l u=>by
  have ih:=IL h n;unfold nu;constructor
  ·intro hu;obtain⟨v,H,W⟩:=bs hu;obtain⟨w,h3,h4⟩:=bs W;obtain⟨g1,g2⟩:=(h e l v).1 H;obtain⟨g3,g4⟩:=(ih _ _ w).1 h3;cases h4;rw [g1,bz,g3];refine⟨rfl,fun x K=>?_⟩;rcases ll.1 K with rfl|K
   ·exact g2
   ·exact g4 x K
  ·rintro⟨hu,hk⟩;obtain⟨v,H,W⟩:=bs hu;obtain⟨w,h3,h4⟩:=bs W;cases h4;rw [(h e l v).2 ⟨H,hk _ (jO ..)⟩,bz,(ih _ _ w).2 ⟨h3,fun x K=>hk x (kX _ K)⟩];rfl
def ot.pl{p q:Pr α}{ok:α->Prop}(h:ot p q ok): ∀n,ot (pl p n) (pl q n) (fun xs=> ∀x∈xs,ok x)
 |0=>EI fun x K=>by cases K
 |n+1=>fun l u=>by
  have ih:=ot.pl h n;unfold Go.Proofs.YtdohlidddcgfjaaGreat.pl;constructor
  ·intro hu;obtain⟨v,H,W⟩:=bs hu;obtain⟨w,h3,h4⟩:=bs W;obtain⟨g1,g2⟩:=(h l v).1 H;obtain⟨g3,g4⟩:=(ih _ w).1 h3;cases h4;rw [g1,bz,g3];refine⟨rfl,fun x K=>?_⟩;rcases ll.1 K with rfl|K
   ·exact g2
   ·exact g4 x K
  ·rintro⟨hu,hk⟩;obtain⟨v,H,W⟩:=bs hu;obtain⟨w,h3,h4⟩:=bs W;cases h4;rw [(h l v).2 ⟨H,hk _ (jO ..)⟩,bz,(ih _ w).2 ⟨h3,fun x K=>hk x (kX _ K)⟩];rfl
def Mw{p q:Pr α}{ok:α->Prop}(h:ot p q ok):ot (yq p) (yq q) (fun xs=> ∀x∈xs,ok x):=mD fun n=>h.pl n.toNat
def J1(q:Pr α)(ar:α->Nat)(put:α->Int->Int->α)(e:List Int×Int):Pr (α×List Int×Int):=fun l=>
 (q l).bind fun u=>(zB (ar u.1) e.1).map fun w=>((put u.1 w.1 w.2.1,w.2.2++[e.2],e.2+1),u.2)
def ot.put{q qD:Pr α}{ok ok2:α->Prop}{ar:α->Int}{arT:α->Nat}{put:α->Int->Int->α}(h:ot q qD ok)(har: ∀x,0<=ar x->(ar x).toNat=arT x)(e: ∀x a b,ok2 (put x a b)↔0<=ar x/\ok x)(bx:List Int×Int):ot (J1 q arT put bx) (Jb qD ar put bx) (fun u=>ok2 u.1):=by
 intro l u;unfold J1 Jb;constructor
 ·intro hu;obtain⟨v,H,W⟩:=bs hu;obtain⟨g1,g2⟩:=(h l v).1 H;by_cases ha:ar v.1<0
  ·rw [bM ha]at W;cases W
  ·rw [bB ha,har _ (by omega)]at W;rw [g1,bz];refine⟨W,?_⟩;obtain⟨w,_,rfl⟩:=Rn.1 W;exact(e _ _ _).2 ⟨by omega,g2⟩
 ·rintro⟨hu,hk⟩;obtain⟨v,H,W⟩:=bs hu;obtain⟨w,hw,rfl⟩:=Rn.1 W;obtain⟨h3,h4⟩:=(e _ _ _).1 hk;rw [(h l v).2 ⟨H,h4⟩,bz,bB (by omega),har _ h3,hw];rfl
def okX(e:bQ):Prop:= ∀n∈e.i',0<=BK n.Tag
def abf{t:Int}(h:0<=BK t):(BK t).toNat=ar t:=by
 unfold BK pk at h ⊢;by_cases H:t=1\/t=2
 ·rcases H with rfl|rfl<;>rfl
 have ha:ar t=if 12<=t then 2 else 1:=by unfold ar;rw [bB (by simp;omega)]
 rw [ha];rw [bB H]at h ⊢;by_cases W:4<=t/\t<=7
 ·rw [bM W,bB (by omega)];rfl
 rw [bB W]at h ⊢;by_cases h3:12<=t/\t<=23
 ·rw [bM h3,bM (by omega)];rfl
 ·rw [bB h3]at h;have h:(0:Int)<= -1:=h;omega
def afN(e:List Int×Int):pE e=J1 qx (fun n=>ar n.Tag) Nv e:=by
 funext l;unfold pE J1 qx qy Nv cE
 cases p8 l with
 |none=>rfl
 |some u=>
  simp only [bz];by_cases W:(u.1==2)=true
  ·simp only [W,gQ];unfold iH
   cases p8 u.2 with
   |none=>rfl
   |some v=>rfl
  ·simp only [W,jc,hX];by_cases H:(u.1==1)=true
   ·simp only [H,gQ];unfold iH
    cases pv u.2 with
    |none=>rfl
    |some v=>rfl
   ·simp only [H,jc,hX];rfl
def VB(n:Int):ot (HD n) (pmD qx arE Nv n) (fun xs=> ∀x∈xs,0<=BK x.Tag):=
 ot.map (f:=Prod.fst) (ok:=fun u:List bw×(List Int×Int)=> ∀x∈u.1,0<=BK x.Tag) (IL (ok:=fun n:bw=>0<=BK n.Tag) (fun e=>by rw [afN];exact(ot.same qx).put (ar:=arE) (put:=Nv) (ok2:=fun n:bw=>0<=BK n.Tag) (fun x K=>abf K) (fun x a b=>⟨fun h=>⟨h,trivial⟩,fun h=>h.1⟩) e) n.toNat ([],0)) fun x=>qW
def GA:ot wX sJ okX:=mD fun n=>(VB n).map fun x=>qW
def Yi(n:al):Prop:=okX n.c_/\(∀a∈n.u',okX a.Arg)/\ ∀e∈n.D',okX e
def adk:okX ⟨[]⟩:=fun n hn=>by cases hn
def Xk(x:Int):Nat:=if(x==1||x==9)=true then 0 else if(x==2)=true then 2 else if(x==7)=true then 2 else 1
def X3{x:Int}(h:0<=prt x):(prt x).toNat=Xk x:=by
 unfold prt at h ⊢;unfold Xk;repeat' split
 all_goals simp_all
 all_goals omega
def abh:ot PU (NK sJ) (fun a=>okX a.Arg):=mD fun f=>GA.map fun x=>qW
def abg(x:Int):ot (D1 wX x) (D1 sJ x) Yi:=by
 unfold D1;refine vo _ (mD fun t=>(ot.same _).map fun ks=>?_) (vo _ (mD fun f=>GA.map fun c=>?_) (vo _ (GA.map fun c=>?_) (vo _ (mD fun ks=>(Mw abh).map fun a=>?_) (vo _ ((Mw GA).map fun a=>?_) (vo _ (mD fun a=>(ot.same _).map fun l=>?_) (EI ?_))))));all_goals simp [Yi,adk]
def X5(e:List Int×Int):J2 e=J1 (cE p8 (D1 wX)) (fun n=>Xk n.Op) I6 e:=by
 funext l;unfold J2 J1 cE
 cases p8 l with
 |none=>rfl
 |some u=>
  simp only [bz];unfold HE D1;simp only [show NK wX=PU from rfl];unfold qy I6 cE iH;obtain⟨x,l1⟩:=u;simp only;by_cases H:(x==1||x==9)=true
  ·simp only [H,gQ]
   cases p8 l1 with
   |none=>rfl
   |some v=>
    simp only [bz]
    cases E2 v.2 with
    |none=>rfl
    |some w=>simp only [bz,nq];simp only [Xk,H,gQ]
  simp only [H,jc,hX];by_cases W:(x==2)=true
  ·simp only [W,gQ]
   cases yI l1 with
   |none=>rfl
   |some v=>
    simp only [bz]
    cases wX v.2 with
    |none=>rfl
    |some w=>simp only [bz,nq];simp only [Xk,H,W,gQ,jc,hX]
  simp only [W,jc,hX];by_cases h3:(x==3)=true
  ·simp only [h3,gQ];have h7:(x==7)=false:=by rw [oJ]at h3;subst h3;rfl
   cases wX l1 with
   |none=>rfl
   |some w=>simp only [bz,nq];simp only [Xk,H,W,h7,jc,hX]
  simp only [h3,jc,hX];by_cases h4:(x==4||x==10||x==11)=true
  ·simp only [h4,gQ];have h7:(x==7)=false:=by simp at h4 ⊢;omega
   cases E2 l1 with
   |none=>rfl
   |some v=>
    simp only [bz]
    cases yq PU v.2 with
    |none=>rfl
    |some w=>simp only [bz,nq];simp only [Xk,H,W,h7,jc,hX]
  simp only [h4,jc,hX];by_cases h5:(x==5)=true
  ·simp only [h5,gQ];have h7:(x==7)=false:=by rw [oJ]at h5;subst h5;rfl
   cases yq wX l1 with
   |none=>rfl
   |some w=>simp only [bz,nq];simp only [Xk,H,W,h7,jc,hX]
  simp only [h5,jc,hX];by_cases h8:(x==8)=true
  ·simp only [h8,gQ];have h7:(x==7)=false:=by rw [oJ]at h8;subst h8;rfl
   cases yq PM l1 with
   |none=>rfl
   |some v=>
    simp only [bz]
    cases X9 v.2 with
    |none=>rfl
    |some w=>simp only [bz,nq];simp only [Xk,H,W,h7,jc,hX]
  simp only [h8,jc,hX];by_cases h7:(x==7)=true
  ·simp only [h7,gQ,bz,Xk,H,W,jc,hX]
  ·simp only [h7,bz,Xk,H,W,jc,hX]
def okF(f:dl):Prop:= ∀n∈f.i',0<=prt n.Op/\Yi n
def TH(n:Int):ot (DY n) (pmD (cE p8 (D1 sJ)) XG I6 n) (fun xs=> ∀x∈xs,0<=prt x.Op/\Yi x):=
 ot.map (f:=Prod.fst) (ok:=fun u:List al×(List Int×Int)=> ∀x∈u.1,0<=prt x.Op/\Yi x) (IL (ok:=fun n:al=>0<=prt n.Op/\Yi n) (fun e=>by rw [X5];exact(mD fun x=>abg x).put (ar:=XG) (put:=I6) (ok2:=fun n:al=>0<=prt n.Op/\Yi n) (fun x K=>X3 K) (fun x a b=>qW) e) n.toNat ([],0)) fun x=>qW
def X8:ot NF Lv okF:=mD fun a=>mD fun w=>mD fun cs=>mD fun n=>(TH n).map fun x=>qW
def X4:ot Ny Lt (fun p=> ∀f∈p.L',okF f):=(Mw X8).map fun x=>qW
def okM(m:cH):Prop:= ∀f∈m.b_.L',okF f
def PP:ot PQ J3 okM:=by
 refine mD fun k=>mD fun f=>mD fun t=>mD fun e=>?_;unfold Lw VC;refine vo _ (mD fun bx=>X4.map fun p=>qW) (vo _ (mD fun g=>(ot.same _).map fun p=>?_) (vo _ (mD fun g=>(ot.same _).map fun p=>?_) (vo _ ((ot.same _).map fun c=>?_) (EI ?_))));all_goals simp [okM]
def YE(t:Tr): ∀bx,t.wf-> ∀n∈t.flat bx,0<=BK n.Tag:=by
 have hk: ∀{k:Nat} {n:bw} (a b:Int),Go.Proofs.YtdohlidddcgfjaaGreat.Tr.wf=Go.Proofs.YtdohlidddcgfjaaGreat.Tr.wf->pk n.Tag=some k->0<=BK (mN n a b).Tag:=fun{k n} a b _ h=>by
  show 0<=BK n.Tag;unfold BK;rw [h];exact Int.natCast_nonneg k
 induction t with
 |lf n=>
  intro bx h m hm;rw [EN.1 hm];exact hk _ _ rfl h.1
 |un n a ih=>
  intro bx h m hm;rcases An.1 hm with hm|hm
  ·exact ih bx h.2 m hm
  ·rw [EN.1 hm];exact hk _ _ rfl h.1.1
 |bi n a b iha ihb=>
  intro bx h m hm;rcases An.1 hm with hm|hm
  ·rcases An.1 hm with hm|hm
   ·exact iha bx h.2.1 m hm
   ·exact ihb _ h.2.2 m hm
  ·rw [EN.1 hm];exact hk _ _ rfl h.1.1
def HV{e:bQ}(h:Ee e):okX e:=by
 rcases h with h|h
 ·unfold pt at h;obtain⟨t,D⟩:=Rr.1 h;obtain⟨H,W,_⟩:=o6 D;unfold okX;rw [W];exact YE t 0 H
 ·intro n hn;rw [vM h]at hn;cases hn
def afD{n:al}(h:GN n):0<=prt n.Op/\Yi n:=by
 obtain⟨H,W,h3,h4,h5,_⟩:=TP h.prt h.own;refine⟨h.prt,?_,?_,?_⟩
 ·by_cases hc:n.Op=2\/n.Op=3
  ·exact HV (h.cond hc)
  ·rw [h3 (by omega) (by omega)];exact adk
 ·by_cases hc:n.Op=4\/n.Op=10\/n.Op=11
  ·exact fun a ha=>HV ((h.grp hc).2.2.2 a ha).2
  ·rw [(h4 (by omega) (by omega) (by omega)).2];exact fun a ha=>by cases ha
 ·by_cases hc:n.Op=5
  ·exact fun e he=>HV ((h.prj hc).2 e he)
  ·rw [h5 hc];exact fun a ha=>by cases ha
def Xw: ∀{ns:List al} {i:Nat} {st:List Int},Frs ns i st-> ∀n∈ns,0<=prt n.Op/\Yi n
 |[],_,_,_=>fun n hn=>by cases hn
 |e::tl,i,st,h=>fun n hn=>by
  rcases ll.1 hn with rfl|hn
  ·exact afD h.2.1
  ·exact Xw h.2.2 n hn
def abv{f:dl}(Y:gF f)(h:Qg f.i'=true):okF f:=by
 have hl:f.i'.length<=90:=by
  rcases pj 60 f.i'.length with hc|hc
  ·unfold Qg iP at h;rw [bM (by simp;omega)]at h;cases h
  ·omega
 exact Xw (Yt (Ef Y hl) h).2
def V2{p:iG}(Y:gP p)(h:Bb p=true): ∀f∈p.L',okF f:=fun f hf=>by
 unfold Bb at h;simp only [nw,mI]at h;have h3:=h.2 f hf;unfold Be at h3;simp only [nw]at h3;exact abv (Y.f f hf) h3.1.1
def Vq{m:cH}(Y:gM m)(h:q6 m=true):okM m:=by
 have e0:m.b_=⟨[]⟩->okM m:=fun e=>by unfold okM;rw [e];exact fun f hf=>by cases hf
 unfold q6 at h;rw [nw]at h;have h:=h.2;split at h
 ·simp only [nw]at h;exact V2 Y.p h.1.2
 split at h
 ·simp only [mS]at h;exact e0 h.2.2.1
 split at h
 ·simp only [nw,mS]at h;exact e0 h.2.2.1
 split at h
 ·simp only [nw,mS]at h;exact e0 h.2.2.2.1
 ·cases h
end
section
def MO(e:bQ)(hs:ZE e): ∀(tl:List bw) (i f:Nat) (out:List Int),e.i'.drop i=tl->tl.length<f->out.length+(tl.flatMap nB).length<=50000000000->la e f out (i:Int)=some (out++tl.flatMap nB)
 |[],i,f+1,out,hd,_,_=>by
  have h0:e.i'.length<=i:=zc.1 hd;unfold la;rw [bB (by simp;omega)];simp
 |n::tl,i,f+1,out,hd,hf,ho=>by
  obtain⟨H,W,h3⟩:=jN hd;have hlen:=hs.len;have hn:=hs.str n (by rw [eU]at H;exact t7 H);have hvl:=Pn n.Value;have hpos:1<=(nB n).length:=by simp [-List.length_flatMap,nB]
  rw [El]at ho;simp only [jl]at hf;have key: ∀t:List Int,u8.wrap n.Tag::t=nB n->la e f ((out++[u8.wrap n.Tag])++t) (i64.wrap ((i:Int)+1))=some (out++(n::tl).flatMap nB):=fun t D=>by
   rw [vE (by omega),jR,show [u8.wrap n.Tag]++t=nB n from D,MO e hs tl (i+1) f _ h3 (by omega) (by simp [-List.length_flatMap];omega),jR,Fy]
  unfold la vb;rw [bM (by simp;omega),H,bz,bZ (by simp;omega),bz];by_cases t2:n.Tag=2
  ·rw [bM (by simp [t2]),bZ (by simp;omega),bz,bB (by simp [t2])];exact key _ (by unfold nB;rw [bM t2])
  ·rw [bB (by simpa using t2)];by_cases t1:n.Tag=1
   ·rw [bM (by simp [t1]),AW _ (by omega),bz,bZ (by simp;omega),bz];exact key _ (by unfold nB;rw [bB t2,bM t1])
   ·rw [bB (by simpa using t1)];have:=key [] (by unfold nB;rw [bB t2,bB t1])
    rwa [vW]at this
def Ru(e:bQ)(hs:ZE e)(h:(eB e).length<=50000000000):tk e=some (eB e):=by
 have hl:=hs.len;rw [Z3]at h;unfold tk;rw [afG (by omega)];have H:gW (e.i'.length:Int) 2=some (gc (e.i'.length:Int) 2):=s5 e.i'.length 2 (by omega) (by omega);rw [H,bz];exact MO e hs e.i' 0 de (gc (e.i'.length:Int) 2) rfl (kP (by omega)) (by rw [gz];omega)
structure ZN(n:al):Prop where
 d:ZD n
 g':n.A'.length<=1000
 keys:n.v'.length<=1000
 order:n.B'.length<=1000
 items:n.D'.length<=1000
 aggs:n.u'.length<=1000
def JH(n:al)(hs:ZN n): ∀(tl:List f9) (i f:Nat) (out:List Int),n.u'.drop i=tl->tl.length<f->out.length+(tl.flatMap agB).length<=50000000000->p9 n f out (i:Int)=some (out++tl.flatMap agB)
 |[],i,f+1,out,hd,_,_=>by
  have h0:n.u'.length<=i:=zc.1 hd;unfold p9;rw [bB (by simp;omega)];simp
 |a::tl,i,f+1,out,hd,hf,ho=>by
  obtain⟨H,W,h3⟩:=jN hd;have hlen:=hs.aggs;have ha:=hs.d.arg a (by rw [eU]at H;exact t7 H);have hl:(agB a).length=(eB a.Arg).length+1:=by simp [-List.length_flatMap,agB]
  rw [El]at ho;simp only [jl]at hf;unfold p9;rw [bM (by simp;omega),H,bz,bZ (by simp;omega),bz,Ru _ ha (by omega),bz,bZ (by simp;omega),bz,vE (by omega),JH n hs tl (i+1) f _ h3 (by omega) (by simp [-List.length_flatMap];omega),jR,jR];rfl
def JG(n:al)(hs:ZN n): ∀(tl:List bQ) (i f:Nat) (out:List Int),n.D'.drop i=tl->tl.length<f->out.length+(tl.flatMap eB).length<=50000000000->p7 n f out (i:Int)=some (out++tl.flatMap eB)
 |[],i,f+1,out,hd,_,_=>by
  have h0:n.D'.length<=i:=zc.1 hd;unfold p7;rw [bB (by simp;omega)];simp
 |a::tl,i,f+1,out,hd,hf,ho=>by
  obtain⟨H,W,h3⟩:=jN hd;have hlen:=hs.items;have ha:=hs.d.item a (by rw [eU]at H;exact t7 H);rw [El]at ho;simp only [jl]at hf;unfold p7;rw [bM (by simp;omega),H,bz,Ru _ ha (by omega),bz,bZ (by omega),bz,vE (by omega),JG n hs tl (i+1) f _ h3 (by omega) (by simp [-List.length_flatMap];omega),jR];rfl
def JF(n:al)(hs:ZN n): ∀(tl:List jJ) (i f:Nat) (out:List Int),n.B'.drop i=tl->tl.length<f->out.length+2*tl.length<=50000000000->p6 n f out (i:Int)=some (out++(tl.flatMap orB++VY n))
 |[],i,f+1,out,hd,_,ho=>by
  have h0:n.B'.length<=i:=zc.1 hd;simp only [yg]at ho;unfold p6;rw [bB (by simp;omega)];obtain⟨m,hm,he⟩:=Rz (i64.wrap (n.J'+1));have H:gW (m:Int) 4=some (gc (m:Int) 4):=s5 m 4 hm (by omega);rw [he,H,bz,bZ (by simp [gz];omega),bz];unfold VY;rw [he];simp
 |a::tl,i,f+1,out,hd,hf,ho=>by
  obtain⟨H,W,h3⟩:=jN hd;have hlen:=hs.order;simp only [jl]at hf ho;unfold p6;rw [bM (by simp;omega),H,bz,Gv,bz,bZ (by simp;omega),bz,vE (by omega),JF n hs tl (i+1) f _ h3 (by omega) (by simp;omega),jR,Fy,jR];rfl
def U8(n:al)(hs:ZN n)(hl:(wY n).length<=40000000000):zl n=some (wY n):=by
 have hk:=hs.g';have hkk:=hs.keys;have ho:=hs.order;have hi:=hs.items;have ha:=hs.aggs;have hln:(wY n).length=(IT n).length+1:=by simp [-List.length_flatMap,wY]
 have hfr:n.Op=1\/n.Op=9->qa n true=some (wY n):=fun h=>by
  unfold qa;rw [bM rfl,bZ (by simp),bz,AR _ (by omega),bz,bZ (by simp [xP];omega),bz];unfold wY IT;rw [bM h];rfl
 have hgr:n.Op=4\/n.Op=10\/n.Op=11->n9 n true=some (wY n):=fun h=>by
  have hcn:IT n=UN n.v'++u8.wrap (n.u'.length:Int)::n.u'.flatMap agB:=by unfold IT;rw [bB (by omega),bB (by omega),bB (by omega),bM h]
  have hla:=congrArg List.length hcn;rw [nY,jl]at hla;unfold n9;rw [bM rfl,AR _ (by omega),bz,bZ (by simp [xP];omega),bz,bZ (by simp [xP];omega),bz];have:=JH n hs n.u' 0 de ([u8.wrap n.Op]++UN n.v'++[u8.wrap (n.u'.length:Int)]) rfl (kP (by omega)) (by simp [-List.length_flatMap,xP];omega);rw [show((0:Int))=((0:Nat):Int)from rfl,this];unfold wY;rw [hcn];simp
 unfold zl;by_cases H:n.Op=1
 ·rw [bM (by simp [H]),show(n.Op==(1:Int))=true by simp [H]];exact hfr (.inl H)
 rw [bB (by simpa using H)];by_cases h9:n.Op=9
 ·rw [show(n.Op==(9:Int))=true by simp [h9]];exact hfr (.inr h9)
 rw [show(n.Op==(9:Int))=false by simp [h9]];unfold qa;rw [bB (by simp)];by_cases W:n.Op=2
 ·have hcn:IT n=fB n.Left::eB n.c_:=by unfold IT;rw [bB (by omega),bM W]
  rw [hcn,jl]at hln;rw [bM (by simp [W]),Gv,bz,bZ (by simp),bz,Ru _ hs.d.cond (by omega),bz,bZ (by simp;omega),bz];unfold wY;rw [hcn];rfl
 rw [bB (by simpa using W)];by_cases h3:n.Op=3
 ·have hcn:IT n=eB n.c_:=by unfold IT;rw [bB (by omega),bB W,bM h3]
  rw [hcn]at hln;rw [bM (by simp [h3]),Ru _ hs.d.cond (by omega),bz,bZ (by simp;omega),bz];unfold wY;rw [hcn];rfl
 rw [bB (by simpa using h3)];by_cases h4:n.Op=4
 ·rw [bM (by simp [h4]),show(n.Op==(4:Int))=true by simp [h4]];exact hgr (.inl h4)
 rw [bB (by simpa using h4)];by_cases h10:n.Op=10
 ·rw [bM (by simp [h10]),show(n.Op==(10:Int))=true by simp [h10]];exact hgr (.inr (.inl h10))
 rw [bB (by simpa using h10)];by_cases h11:n.Op=11
 ·rw [show(n.Op==(11:Int))=true by simp [h11]];exact hgr (.inr (.inr h11))
 rw [show(n.Op==(11:Int))=false by simp [h11]];unfold n9;rw [bB (by simp)];by_cases h5:n.Op=5
 ·have hcn:IT n=u8.wrap (n.D'.length:Int)::n.D'.flatMap eB:=by unfold IT;rw [bB (by omega),bB W,bB h3,bB (by omega),bM h5]
  rw [hcn,jl]at hln;rw [bM (by simp [h5]),bZ (by simp),bz];have:=JG n hs n.D' 0 de ([u8.wrap n.Op]++[u8.wrap (n.D'.length:Int)]) rfl (kP (by omega)) (by simp [-List.length_flatMap];omega);rw [show((0:Int))=((0:Nat):Int)from rfl,this];unfold wY;rw [hcn];simp
 rw [bB (by simpa using h5)];by_cases h8:n.Op=8
 ·rw [bM (by simp [h8]),bZ (by simp),bz];have:=JF n hs n.B' 0 de ([u8.wrap n.Op]++[u8.wrap (n.B'.length:Int)]) rfl (kP (by omega)) (by simp;omega);rw [show((0:Int))=((0:Nat):Int)from rfl,this];unfold wY IT;rw [bB (by omega),bB W,bB h3,bB (by omega),bB h5,bM h8];simp
 rw [bB (by simpa using h8)];unfold wY IT;rw [bB (by omega),bB W,bB h3,bB (by omega),bB h5,bB h8]
structure ZF(f:dl):Prop where
 cols:f.p_.length<=1000
 len:f.i'.length<=1000
 n: ∀n∈f.i',ZN n
def JD(nx:List Int->Int->Option (List Int))(i:Nat)(hi:i<=1000)(e:dl)(hs:ZF e): ∀(tl:List al) (k f:Nat) (out:List Int),e.i'.drop k=tl->tl.length<f->out.length+(tl.flatMap wY).length<=40000000000->pZ nx (i:Int) e f out (k:Int)=nx (out++tl.flatMap wY) ((i+1:Nat):Int)
 |[],k,f+1,out,hd,_,_=>by
  have h0:e.i'.length<=k:=zc.1 hd;unfold pZ;rw [bB (by simp;omega),vE (by omega)];simp
 |n::tl,k,f+1,out,hd,hf,ho=>by
  obtain⟨H,W,h3⟩:=jN hd;have hlen:=hs.len;have hn:=hs.n n (by rw [eU]at H;exact t7 H);rw [El]at ho;simp only [jl]at hf;unfold pZ;rw [bM (by simp;omega),H,bz,U8 _ hn (by omega),bz,bZ (by omega),bz,vE (by omega),JD nx i hi e hs tl (k+1) f _ h3 (by omega) (by simp [-List.length_flatMap];omega),jR];rfl
def JE(p:iG)(hs: ∀f∈p.L',ZF f)(hp:p.L'.length<=1000): ∀(tl:List dl) (i f:Nat) (out:List Int),p.L'.drop i=tl->tl.length<f->out.length+(tl.flatMap UP).length<=30000000000->n8 p f out (i:Int)=some (out++tl.flatMap UP)
 |[],i,f+1,out,hd,_,_=>by
  have h0:p.L'.length<=i:=zc.1 hd;unfold n8;rw [bB (by simp;omega)];simp
 |e::tl,i,f+1,out,hd,hf,ho=>by
  obtain⟨H,W,h3⟩:=jN hd;have he:=hs e (by rw [eU]at H;exact t7 H);have hc:=he.cols;have hn:=he.len;have hfl:(UP e).length=4+e.p_.length+(e.i'.flatMap wY).length:=by simp [-List.length_flatMap,UP,xP];omega
  rw [El]at ho;simp only [jl]at hf;unfold n8;rw [bM (by simp;omega),H,bz,bZ (by simp;omega),bz,AR _ (by omega),bz,bZ (by simp [xP];omega),bz,bZ (by simp [xP];omega),bz];rw [show((0:Int))=((0:Nat):Int)from rfl,JD _ i (by omega) e he e.i' 0 de _ rfl (kP (by omega)) (by simp [-List.length_flatMap,xP];omega)];rw [show(out++[u8.wrap e.At,u8.wrap e.Way]++UN e.p_++[u8.wrap (e.i'.length:Int)])++e.i'.flatMap wY=out++UP e by simp [UP]];rw [JE p hs hp tl (i+1) f _ h3 (by omega) (by simp [-List.length_flatMap];omega),jR,Fy]
def adt{f:dl}(h:gF f):ZF f:=⟨by have:=h.cols;omega,by have:=h.len;omega,fun n hn=>by
 have k:=h.n n hn;exact⟨adu k,by have:=k.g';omega,by have:=k.keys;omega,by have:=k.order;omega,by have:=k.items;omega,by have:=k.aggs;omega⟩⟩
def U7(p:iG)(hs:gP p)(hl:(RJ p).length<=30000):zk p=some (RJ p):=by
 have:=hs.len;have hp:(RJ p).length=1+(p.L'.flatMap UP).length:=by simp [-List.length_flatMap,RJ];omega
 exact JE p (fun f hf=>adt (hs.f f hf)) (by omega) p.L' 0 de [u8.wrap (p.L'.length:Int)] rfl (kP (by omega)) (by rw [List.length_singleton];omega)
def Pi{m:cH}(Y:gM m)(hr:q6 m=true):o9 m=jZ (VW m):=
 Ns m (fun _=>⟨U7 m.b_ Y.p Y.pl,by have:=Y.pl;omega⟩) (fun hp=>Tz hp Y.r) hr
def Qh{f:dl}(h:gF f): ∃r:List (List Int)×Int,rg f.i'=some r/\Qg f.i'= !(decide (0<=r.2)):=by
 by_cases hl:f.i'.length<=90
 ·obtain⟨out,w,e,H,W⟩:=II (Ef h hl);rcases W with⟨e0,_,h3,_⟩|⟨e0,_,a,h3⟩
  ·exact⟨_,h3,by unfold Qg;rw [H,e0];rfl⟩
  ·exact⟨_,h3,by unfold Qg;rw [H,e0];simp⟩
 ·refine⟨([],0),?_,?_⟩
  ·unfold rg;rw [bM (by simp;omega)]
  ·unfold Qg iP;rw [bM (by simp;omega)];rfl
def MS(nx:Int->Option Bool)(i:Nat)(hi:i<=1000)(e:dl)(hs:gF e): ∀(tl:List Int) (k f:Nat),e.p_.drop k=tl->tl.length<f->qb nx (i:Int) e f (k:Int)=if(tl.any Gp|| !(Qg e.i'))=true then some false else nx ((i+1:Nat):Int)
 |[],k,f+1,hd,_=>by
  have h0:e.p_.length<=k:=zc.1 hd;obtain⟨r,h4,h3⟩:=Qh hs;unfold qb;rw [bB (by simp;omega),vE (by omega),h4,h3,bz,List.any_nil,ta,Bool.not_not]
 |c::tl,k,f+1,hd,hf=>by
  obtain⟨H,W,h3⟩:=jN hd;have hlen:=hs.cols;simp only [jl]at hf;unfold qb;rw [bM (by simp;omega),H,bz];have hc:((decide (c<(0:Int)))||(decide ((15:Int)<c)))=Gp c:=by
   unfold Gp;rw [tY];simp;omega
  rw [hc,List.any_cons]
  cases Gp c with
  |true=>simp
  |false=>rw [bB (by simp),vE (by omega),MS nx i hi e hs tl (k+1) f h3 (by omega),ta]
def MT(p:iG)(hs:gP p): ∀(tl:List dl) (i f:Nat),p.L'.drop i=tl->tl.length<f->oa p f (i:Int)=some (tl.all Be)
 |[],i,f+1,hd,_=>by
  have h0:p.L'.length<=i:=zc.1 hd;unfold oa;rw [bB (by simp;omega)];rfl
 |e::tl,i,f+1,hd,hf=>by
  obtain⟨H,W,h3⟩:=jN hd;have hlen:=hs.len;have he:=hs.f e (by rw [eU]at H;exact t7 H);have hc:=he.cols;simp only [jl]at hf;unfold oa;rw [bM (by simp;omega),H,bz,Dv];by_cases V:(((((e.At !=(1:Int))&&(e.At !=(2:Int)))||(decide (e.Way<(1:Int))))||(decide ((4:Int)<e.Way)))||(decide ((16:Int)<(e.p_.length:Int))))=true
  ·rw [bM V];have:Be e=false:=by
    unfold Be;rw [IU];intro hh;simp at V hh;omega
   rw [this];rfl
  ·rw [bB V,show((0:Int))=((0:Nat):Int)from rfl,MS _ i (by omega) e he e.p_ 0 de rfl (kP (by omega)),MT p hs tl (i+1) f h3 (by omega)];have K:Be e= !(e.p_.any Gp|| !(Qg e.i')):=by
    unfold Be;have h5:((e.At==(1:Int))||(e.At==(2:Int)))=true:=by simp at V ⊢;omega
    have h6:((decide (1<=e.Way)&&decide (e.Way<=4))&&decide ((e.p_.length:Int)<=16))=true:=by simp at V ⊢;omega
    rw [h5,h6];cases e.p_.any Gp<;>cases Qg e.i'<;>rfl
   rw [K];cases (e.p_.any Gp|| !(Qg e.i'))<;>simp
def ac4(p:iG)(hs:gP p):wV p=some (Bb p):=by
 have:=hs.len;unfold wV Bb;have H:=MT p hs p.L' 0 de rfl (kP (by omega));rw [show((0:Int))=((0:Nat):Int)from rfl,H];by_cases h:((decide ((p.L'.length:Int)<(1:Int)))||(decide ((30:Int)<(p.L'.length:Int))))=true
 ·rw [bM h];have:(decide ((1:Int)<=(p.L'.length:Int))&&decide ((p.L'.length:Int)<=30))=false:=by
   rw [IU];intro hh;simp at h hh;omega
  rw [this];rfl
 ·rw [bB h];have:(decide ((1:Int)<=(p.L'.length:Int))&&decide ((p.L'.length:Int)<=30))=true:=by simp at h ⊢;omega
  rw [this];rfl
def Wi{p:iG}(h:gP p):SaP p:=fun f hf=>by
 have k:=h.f f hf;exact⟨by have:=k.len;omega,fun n hn=>⟨by have:=(k.n n hn).aggs;omega,by have:=(k.n n hn).order;omega⟩⟩
def Va{m:cH}(h:gM m):q9 m=some (q6 m):=I4 m (ac4 m.b_ h.p) (Wi h.p)
end
section
variable{b:List Int}
def NH{α β γ:Type}(p:Pr α)(f:α->Pr β)(g:β->Pr γ):cE (cE p f) g=cE p (fun x=>cE (f x) g):=by
 funext l;unfold cE;cases p l<;>rfl
def J4{α β:Type}(p:Pr α)(f:α->β):cE p (fun x l=>some (f x,l))=iH f p:=by
 funext l;unfold cE iH;cases p l<;>rfl
section
variable(hl:b.length<=900000000)(N':qV b)
include hl N'
def Sr{α β σ:Type}{f:bd->Option (α×bd)}{p:Pr α}(hf:ow b f p)(mk:List α->σ){fin:σ->bd->Option (β×bd)}{pf:List α->Pr β}(hfin: ∀xs,ow b (fin (mk xs)) (pf xs))
  {L:Int×bd->Nat->Int->σ->bd->Option (β×bd)}(hL: ∀r fu x out c,L r (fu+1) x (mk out) c=if(decide (x<r.1)&&(!c.B_))=true then(f c).bind fun u=>(hU out [u.1]).bind fun o2=>L r fu (i64.wrap (x+1)) (mk o2) u.2 else fin (mk out) c):
  ow b (fun c=>(br c).bind fun r=>L r de 0 (mk []) r.2) (cE (yq p) pf):=by
 obtain⟨H,W⟩:=AI hl N';have:=B0 (g:=fun n c=>L (n,c) de 0 (mk []) c) (q:=fun n=>cE (pl p n.toNat) pf) iT H W (xz hl N') fun n hn=>Iz fun c0=>
  aan hf mk hfin n (by have:=hn.2;omega) (L:=fun fu x bx c=>L (n,c0) fu x bx c) fun fu x out c=>hL (n,c0) fu x out c
 unfold yq;rw [NH];exact this.congr fun c=>rfl
def Z0:ow b pu (yq sJ):=by
 have:=Sr hl N' (QQ hl N') (fun out=>out) (fin:=fun bx c=>some (bx,c)) (pf:=fun xs l=>some (xs,l)) (fun xs=>vI xs) (L:=fun r fu x bx c=>nk r fu bx x c) fun r fu x out c=>rfl;rw [HF]at this;exact this
def zN(x:Int):al:=⟨x,0,0,0,[],false,⟨[]⟩,[],[],[],[],0⟩
def abA(x:Int)(c:bd):Option (al×bd):=(iN c).bind fun r5=>(br r5.2).bind fun r6=>gZ r6 de 0 ⟨x,0,0,0,[],false,⟨[]⟩,r5.1,[],[],[],0⟩ r6.2
omit hl N' in
def Up(c:bd)(x:Int):io c (zN x)=
  if(x==1||x==9)=true then(br c).bind fun r=>(iN r.2).bind fun k=>some (⟨x,0,0,r.1,k.1,false,⟨[]⟩,[],[],[],[],0⟩,k.2)
  else if(x==2)=true then(fV c).bind fun r=>(gL r.2).bind fun k=>some (⟨x,0,0,0,[],r.1,k.1,[],[],[],[],0⟩,k.2)
  else if(x==3)=true then(gL c).bind fun k=>some (⟨x,0,0,0,[],false,k.1,[],[],[],[],0⟩,k.2)
  else if(x==4||x==10||x==11)=true then abA x c
  else if(x==5)=true then(pu c).bind fun k=>some (⟨x,0,0,0,[],false,⟨[]⟩,[],[],k.1,[],0⟩,k.2)
  else if(x==8)=true then(br c).bind fun r=>gY r de 0 (zN x) r.2
  else some (zN x,c):=by
 unfold io mt jU zN abA;simp only
 cases H:(x==1)with
 |true=>simp only [gQ,Az]
 |false=>
 cases h9:(x==9)with
 |true=>simp only [jc,hX,gQ,ta]
 |false=>
 cases W:(x==2)with
 |true=>simp only [jc,hX,gQ,ta]
 |false=>
 cases h3:(x==3)with
 |true=>simp only [jc,hX,gQ,ta]
 |false=>
 cases h4:(x==4)with
 |true=>simp only [jc,hX,gQ,ta,Az]
 |false=>
 cases h10:(x==10)with
 |true=>simp only [jc,hX,gQ,ta,Az]
 |false=>
 cases h11:(x==11)with
 |true=>simp only [jc,hX,gQ,ta,Az]
 |false=>simp only [jc,hX,ta]
def adr(x:Int):ow b (abA x) (cE E2 fun ks=>iH (fun a=>(⟨x,0,0,0,[],false,⟨[]⟩,ks,a,[],[],0⟩:al)) (yq (NK sJ))):=by
 have:=ow.bind (g:=fun ks c=>(br c).bind fun r6=>gZ r6 de 0 ⟨x,0,0,0,[],false,⟨[]⟩,ks,[],[],[],0⟩ r6.2) (E6 hl N') fun ks=>by
  have:=Sr hl N' (f:=fun c=>(br c).bind fun t=>(gL t.2).bind fun e=>some (f9.mk t.1 e.1,e.2)) (p:=NK sJ) ((xz hl N').bind fun t=>(QQ hl N').map (f9.mk t)) (fun a=>(⟨x,0,0,0,[],false,⟨[]⟩,ks,a,[],[],0⟩:al)) (fin:=fun bx c=>some (bx,c)) (fun xs=>vI _) (L:=gZ) fun r fu i out c=>by
   conv=>lhs;unfold gZ
   simp only [Dq,bz]
  rw [J4]at this;exact this
 exact this
def WV(x:Int):ow b (fun c=>io c (zN x)) (D1 sJ x):=by
  have hs:=xz hl N';have hn:=E6 hl N';have he:=QQ hl N';have:=qS (b:=b) (x==1||x==9) (hs.bind fun t=>hn.map fun ks=>(⟨x,0,0,t,ks,false,⟨[]⟩,[],[],[],[],0⟩:al))
    (qS (x==2) ((LN hl N').bind fun f=>he.map fun c=>(⟨x,0,0,0,[],f,c,[],[],[],[],0⟩:al))
    (qS (x==3) (he.map fun c=>(⟨x,0,0,0,[],false,c,[],[],[],[],0⟩:al))
    (qS (x==4||x==10||x==11) (adr hl N' x)
    (qS (x==5) ((Z0 hl N').map fun a=>(⟨x,0,0,0,[],false,⟨[]⟩,[],[],a,[],0⟩:al))
    (qS (x==8) (f:=fun c=>(br c).bind fun r=>gY r de 0 (zN x) r.2) (Sr hl N' (f:=fun c=>(br c).bind fun t=>(fV t.2).bind fun e=>some (jJ.mk t.1 e.1,e.2)) (p:=PM) (hs.bind fun t=>(LN hl N').map (jJ.mk t)) (fun a=>(⟨x,0,0,0,[],false,⟨[]⟩,[],[],[],a,0⟩:al))
        (fin:=fun bx c=>(bW c 4).bind fun r=>some (⟨bx.Op,bx.A,bx.B,bx.Table,bx.A',bx.Left,bx.c_,bx.v',bx.u',bx.D',bx.B',Jj r.1⟩,r.2)) (fun xs=>adm hl N' fun l=>(⟨x,0,0,0,[],false,⟨[]⟩,[],[],[],xs,Jj l⟩:al)) (L:=gY) fun r fu i out c=>by
          conv=>lhs;unfold gY
          simp only [Dq,bz];rfl)
      (vI (zN x)))))))
  exact this.congr fun c=>Up c x
def gnC(c:bd):Option (al×bd):=(br c).bind fun r=>io r.2 (zN r.1)
omit hl N' in
def Yz(r:Int×bd)(fu:Nat)(t:List Int)(x:Int)(y:dl)(f:dl)(c:bd):fO r (fu+1) t x y f c=if(decide (x<r.1)&&(!c.B_))=true then(gnC c).bind fun u=>if decide (XG u.1<0)=true then some (f,({u.2 with B_:=true}:bd))else
    (o8 t (XG u.1) x).bind fun r1=>(hU f.i' [I6 u.1 r1.2.1 r1.2.2.1]).bind fun o2=>fO r fu r1.1 (i64.wrap (x+1)) y ⟨o2,f.At,f.Way,f.p_⟩ ({u.2 with B_:=(u.2.B_||(!r1.2.2.2))}:bd)else some (f,c):=by
 conv=>lhs;unfold fO
 split
 ·unfold gnC
  cases br c with
  |none=>rfl
  |some u=>
   simp only [bz];show((io u.2 (zN u.1)).bind _)=_
   cases io u.2 (zN u.1)with
   |none=>rfl
   |some v=>
    simp only [bz,AS];rfl
 ·rfl
omit hl N' in
def YC(n:Int)(hn:iT n)(a w:Int)(cs:List Int)(c0:bd)(Y:ow b gnC (cE p8 (D1 sJ))):ow b (fun c=>fO (n,c0) de [] 0 ⟨[],0,0,[]⟩ ⟨[],a,w,cs⟩ c) (iH (fun ns=>dl.mk ns a w cs) (pmD (cE p8 (D1 sJ)) XG I6 n)):=
  adj Y XG (fun x=>by unfold XG;have:=wA x.Op;omega) I6 (fun ns=>dl.mk ns a w cs) n (by have:=hn.2;omega) (L:=fun fu t x bx c=>fO (n,c0) fu t x ⟨[],0,0,[]⟩ bx c) fun fu t x out c=>Yz (n,c0) fu t x _ _ c
omit hl N' in
def YB(n:Int)(hn:iT n)(a w:Int)(cs:List Int)(Y:ow b gnC (cE p8 (D1 sJ))):ow b (fun c=>fO (n,c) de [] 0 ⟨[],0,0,[]⟩ ⟨[],a,w,cs⟩ c) (iH (fun ns=>dl.mk ns a w cs) (pmD (cE p8 (D1 sJ)) XG I6 n)):=
 Iz fun c0=>YC n hn a w cs c0 Y
def abC:ow b uj Lv:=by
 have hs:=xz hl N';obtain⟨H,W⟩:=AI hl N';have Y:ow b gnC (cE p8 (D1 sJ)):=hs.bind fun x=>WV hl N' x;have:=hs.bind fun a=>hs.bind fun w=>(E6 hl N').bind fun cs=>B0 (g:=fun n c=>fO (n,c) de [] 0 ⟨[],0,0,[]⟩ ⟨[],a,w,cs⟩ c) (q:=fun n=>iH (fun ns=>dl.mk ns a w cs) (pmD (cE p8 (D1 sJ)) XG I6 n)) iT H W hs fun n hn=>YB n hn a w cs Y;exact this.congr fun c=>rfl
def NL(kind:Int):ow b (fun c=>mg c kind) (D2 kind):=by
 have h8:=yO hl N' 8 (by omega);have h:=(adm hl N' u32.wrap).bind fun bx=>h8.bind fun q=>qS (kind==2) (h8.map fun l=>(⟨kind,bx,q,l,⟨[],false,0⟩⟩:di))
  ((LN hl N').bind fun e=>qS e (h8.map fun c=>(⟨kind,bx,q,0,⟨[],e,c⟩⟩:di)) ((Vi Ut hl N' []).map fun l=>(⟨kind,bx,q,0,⟨l,e,0⟩⟩:di)))
 have h:ow b _ (D2 kind):=h.pcongr fun k hk=>by
  unfold D2;congr 1;unfold X9 iH;funext l
  cases pw 4 l with
  |none=>rfl
  |some u=>
   simp only [nq];rw [show u32.wrap (u32.wrap u.1)=u32.wrap u.1 by rw [GP,GP];omega]
 refine h.congr fun c=>?_;unfold mg mr tkC
 cases bW c 4 with
 |none=>rfl
 |some r=>
 simp only [bz];show((bW r.2 8).bind _)=((bW r.2 8).bind _);congr 1;funext r1;split
 ·rfl
 ·show((fV r1.2).bind _)=((fV r1.2).bind _);congr 1;funext r3
  cases h3:r3.1 with
  |true=>rfl
  |false=>
   show(if(!r3.2.B_)=true then _ else _)=((if(!r3.2.B_)=true then _ else _:Option _).bind _);split
   ·cases dr r3.2.Bytes r3.2.At (r3.2.Bytes.length:Int)with
    |none=>rfl
    |some y=>
     simp only [bz];cases rk y<;>rfl
   ·rfl
def TY:ow b lr J3:=by
  have hs:=xz hl N';have:=hs.bind fun k=>hs.bind fun f=>hs.bind fun t=>hs.bind fun e=>qS (k==1) (p:=cE p8 fun bx=>iH (fun p=>(⟨k,f,t,e,0,bx,p,Pf,0⟩:cH)) Lt) (hs.bind fun bx=>by
      have:=Sr hl N' (abC hl N') (fun fs=>(⟨k,f,t,e,0,bx,⟨fs⟩,Pf,0⟩:cH)) (fin:=fun bx c=>some (bx,c)) (fun xs=>vI _) (L:=lH) fun r fu i out c=>rfl;rw [J4]at this;refine this.pcongr fun k hk=>?_;unfold Lt iH;cases yq Lv (b.drop k)<;>rfl)
    (qS (k==3) (hs.bind fun g=>(NL hl N' 1).map fun p=>(⟨k,f,t,e,g,0,⟨[]⟩,p,0⟩:cH))
    (qS (k==4) (hs.bind fun g=>(NL hl N' 2).map fun p=>(⟨k,f,t,e,g,0,⟨[]⟩,p,0⟩:cH))
    (qS (k==5) ((LN hl N').map fun c=>(⟨k,f,t,e,0,0,⟨[]⟩,Pf,if c=true then 300 else 140⟩:cH))
      (vI (⟨k,f,t,e,0,0,⟨[]⟩,Pf,0⟩:cH)))))
  refine ow.congr this fun c=>?_;unfold lr;congr 1;funext r;congr 1;funext r1;congr 1;funext r2;congr 1;funext r3;show(if(r.1==1)=true then _ else if(r.1==3)=true then _ else if(r.1==4)=true then _ else if(r.1==5)=true then _ else _)=(if(r.1==1)=true then _ else if(r.1==3)=true then _ else if(r.1==4)=true then _ else if(r.1==5)=true then _ else _);split
  · rfl
  split
  · rfl
  split
  · rfl
  split
  · congr 1;funext r4;cases r4.1<;>rfl
  · rfl
end
end
section
def Np{b:List Int}(V:qV b)(hl:b.length<=50000000000):jZ b=some (sl b):=by
 obtain⟨n,_,H,W⟩:=PG b V hl;have e:sl b=b++Af n 4:=by unfold sl;rw [H];rfl
 rw [W,e]
def KB(b:List Int): ∀(tl:List Int) (i:Nat),tl.length+i=b.length->sW b tl i=some (decide (tl=b.drop i))
 |[],i,h=>by
  rw [IV (by simp at h;omega)];rfl
 |e::tl,i,h=>by
  simp only [jl]at h;obtain⟨x,K⟩:=yU (b:=b) (k:=i) (by omega);unfold sW;rw [GD K,bz,K];by_cases he:e=x
  ·rw [bB (by simp [he]),KB b tl (i+1) (by omega)];congr 1;rw [Do,he];simp
  ·rw [bM (by simpa using he),yh (by simp [he])]
def ac2(a b:List Int):zx a b=some (decide (a=b)):=by
 unfold zx;by_cases h:a.length=b.length
 ·rw [bB (by simp [h]),KB b a 0 (by omega)];rfl
 ·rw [bM (by simp;omega),yh (fun e=>h (by rw [e]))]
def adN{b:List Int}(h:4<=b.length)(hl:b.length<=900000000):dr b 0 (i64.wrap ((b.length:Int)-(4:Int)))=some (b.take (b.length-4)):=by
 rw [kM 0 (b.length-4) (show(0:Int)=((0:Nat):Int)from rfl) (by rw [gg (by omega) (by omega)];omega) (by omega) (by omega),yf]
def OU{b:List Int}(V:qV b)(hl:b.length<=900000000):xH b=some (decide (4<=b.length/\sl (b.take (b.length-4))=b)):=by
 unfold xH;by_cases h:4<=b.length
 ·rw [bM (by rw [mS];omega),adN h hl,bz,Np (pU V _) (by simp;omega),bz,ac2,bz,bz];simp [h]
 ·rw [bB (by rw [mS];omega),bz,yh (fun e=>h e.1)]
def Mm{b:List Int}(V:qV b)(hl:b.length<=900000000)(h: ¬(b.length<=20000/\4<=b.length/\sl (b.take (b.length-4))=b)):m7 b=some (zM,false):=by
 unfold m7;rw [OU V hl,bz];by_cases W:b.length<=20000
 ·rw [bM (by simp;omega),yh (fun e=>h ⟨W,e⟩)];rfl
 ·rw [bB (by simp;omega)];rfl
def aac{b:List Int}(V:qV b)(W:b.length<=20000)(h4:4<=b.length)(hs:sl (b.take (b.length-4))=b):m7 b=(lr (cu (b.take (b.length-4)) 0)).bind fun r1=>
  (if(!(r1.2.B_||(r1.2.At !=(r1.2.Bytes.length:Int))))then((q9 r1.1).bind fun r2=>some (!r2))else some true).bind fun t1=>if t1 then some (zM,false)else some (r1.1,true):=by
 unfold m7;rw [OU V (by omega),bz,bM (by simp;omega),Fx ⟨h4,hs⟩,bz,bB (by simp),adN h4 (by omega),bz];rfl
def Rt:kN zM zM=some true:=by
 rw [wj zM zM (fun f hf=>by cases hf),Fx rfl]
def LF{b:List Int}(hl:b.length<=30000){e:Int}(hd:mC b=some (zM,e))(hr:m7 b=some (zM,false))(he:e=7/\b.length<4\/(e=130\/e=331)/\4<=b.length):ja b=some true:=by
 unfold ja;rw [KR,bz,bB (by simp),bB (by simp;omega),bZ (by simp;omega),bz,pM,hd,bz,hr,bz];have h0:(e==0)=false:=by rw [beq_eq_false_iff_ne];omega
 have h7:((e==7)==decide ((b.length:Int)<4))=true:=by rw [oJ,tY,oJ,mS];omega
 have ho:(((e==7)||(e==130))||(e==331))=true:=by simp;omega
 simp only [h0,bne,beq_self_eq_true,uc,Ab,gQ];show((((kN zM zM).bind _).bind _))=_;rw [Rt];simp only [bz,uc,jc,hX];show((kN zM zM).bind _)=_;rw [Rt,bz,ho,h7];rfl
def V1{b:List Int}(V:qV b)(hl:b.length<=20000){m:cH}(Y:gM m)(hm:q6 m=true)(hbody:qV (VW m))(hbl:(VW m).length<=20000)(hs:sl (VW m)=b)(hd:mC b=some (m,0))(hr:m7 b=some (m,true)):ja b=some true:=by
 have hB:o9 m=some b:=by rw [Pi Y hm,Np hbody (by omega),hs]
 have hR:xO m=some true:=by
  unfold xO;rw [Va Y,hm,bz,bM rfl,hB,bz,bz,Fx (by omega)]
 unfold ja;rw [KR,bz,bB (by simp),bB (by simp;omega),bZ (by simp;omega),bz,pM,hd,bz,hr,bz];simp only [bne,beq_self_eq_true,uc,Ab,gQ];rw [wj m m (Wi Y.p),Fx rfl,bz,bz];simp only [uc,jc,hX];rw [hR,bz,bM rfl,hB,bz,Fo];rfl
def Gj(b:List Int)(V:qV b):ja b=some true:=by
 rcases pj 30000 b.length with hl|hl
 ·unfold ja;rw [KR,bz,bB (by simp),bM (by simp;omega)]
 have ho:=aah V (show b.length<=900000000 by omega);by_cases h4:b.length<4
 ·rw [bM h4]at ho;exact LF hl (IM ho (by decide)) (Mm V (by omega) fun h=>by omega) (.inl ⟨rfl,h4⟩)
 rw [bB h4]at ho;rcases Decidable.em (sl (b.take (b.length-4))=b)with hs|hs
 rotate_left
 ·rw [bB hs]at ho;exact LF hl (IM ho (by decide)) (Mm V (by omega) fun h=>hs h.2.2) (.inr ⟨.inl rfl,by omega⟩)
 rw [bM hs]at ho;have hbt:=pU V (b.length-4);have hbl:(b.take (b.length-4)).length=b.length-4:=by rw [Ca];omega
 have hd:=UE hbt (by omega) ho;have bad:mC b=some (zM,331)->m7 b=some (zM,false)->ja b=some true:=fun H W=>LF hl H W (.inr ⟨.inr rfl,by omega⟩);by_cases h20:b.length<=20000
 rotate_left
 ·refine bad ?_ (Mm V (by omega) fun h=>h20 h.1);rw [hd]
  cases hp:PQ (b.take (b.length-4))with
  |none=>rfl
  |some u=>
   obtain⟨m,rest⟩:=u
   cases rest with
   |cons c r=>rfl
   |nil=>
    obtain⟨g1,g2,g3⟩:=Nz _ m [] ⟨hbt,by omega⟩ hp;simp only;rw [Li g2,bz,yh h20,Bool.and_false];rfl
 have hr:=aac V h20 (by omega) hs;obtain⟨x,c,m1,m2⟩:=(TY (b:=b.take (b.length-4)) (by omega) hbt).ok 0 (mT _);rw [m1,bz]at hr;rw [yf]at m2;have no:UU (b.take (b.length-4)) c->m7 b=some (zM,false):=fun hn=>by
  rw [hr,hn.2];rfl
 cases hp:PQ (b.take (b.length-4))with
 |none=>
  rw [hp]at hd;have:J3 (b.take (b.length-4))=none:=by
   cases hq:J3 (b.take (b.length-4))with
   |none=>rfl
   |some u=>have:=((PP _ u).1 hq).1;rw [hp]at this;cases this
  rw [this]at m2;exact bad hd (no m2)
 |some u=>
  obtain⟨m,rest⟩:=u;obtain⟨g1,g2,g3⟩:=Nz _ m rest ⟨hbt,by omega⟩ hp;rw [hp]at hd;by_cases hok:okM m
  ·rw [(PP _ (m,rest)).2 ⟨hp,hok⟩]at m2;obtain⟨rfl,k,hk,rfl,hdr⟩:=m2;have hdr:(b.take (b.length-4)).drop k=rest:=hdr
   cases rest with
   |cons e r=>
    refine bad hd ?_;have hkl:k<(b.take (b.length-4)).length:=by
     have:=congrArg List.length hdr;rw [Ao,jl]at this;omega
    rw [hr];show((if(!(false||(((k:Int)) !=((b.take (b.length-4)).length:Int))))=true then _ else some true:Option Bool).bind _)=_;rw [bB (by simp;omega)];rfl
   |nil=>
    have hkl:k=(b.take (b.length-4)).length:=by
     have:=congrArg List.length hdr;rw [Ao,yg]at this;omega
    have hr:m7 b=if q6 x=true then some (x,true)else some (zM,false):=by
     rw [hr];show((if(!(false||(((k:Int)) !=((b.take (b.length-4)).length:Int))))=true then _ else some true:Option Bool).bind _)=_;rw [bM (by simp [hkl]),Va g2];cases q6 x<;>rfl
    simp only at hd;rw [Li g2,bz,Fx h20,Bool.and_true]at hd
    cases hm:q6 x with
    |false=>rw [hm]at hd hr;exact bad hd hr
    |true=>
     rw [hm]at hd hr;rw [vW]at g1;exact V1 V h20 g2 hm (by rw [<-g1];exact hbt) (by rw [<-g1];omega) (by rw [<-g1];exact hs) hd hr
  ·have:J3 (b.take (b.length-4))=none:=by
    cases hq:J3 (b.take (b.length-4))with
    |none=>rfl
    |some u=>
     obtain⟨q1,q2⟩:=(PP _ u).1 hq;rw [hp]at q1;cases q1;exact absurd q2 hok
   rw [this]at m2;refine bad ?_ (no m2);rw [hd]
   cases rest with
   |cons e r=>rfl
   |nil=>
    have hm:q6 m=false:=by
     rw [IU];exact fun h=>hok (Vq g2 h)
    simp only;rw [Li g2,bz,hm];rfl
end
section
def Ff(b:List Int)(h:inL (inK .u8) b):ja b=some true:=Gj b fun x K=>by
 obtain⟨H,W⟩:=h.2 x K;have H:(0:Int)<=x:=H;have W:x<=255:=W;exact⟨x.toNat,by omega,by omega⟩
end
