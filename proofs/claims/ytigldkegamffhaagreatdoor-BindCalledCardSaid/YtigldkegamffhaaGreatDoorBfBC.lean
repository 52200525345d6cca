/- de of this claim: BC. -/
import Derived.Test.YtigldkegamffhaaGreatDoorBfFB
import Derived.Test.YtigldkegamffhaaGreatDoorBfP11
set_option linter.all false
set_option linter.unusedVariables false
namespace Go.Proofs.YtigldkegamffhaaGreatDoor
open Go

def u5:cj:=[122,122,57]
def xx(x:ci):cj:=if(x.As==[])=true then x.Table else x.As
def hZ{N G}:aL N G (.const (.string ⟨#[122,122,57]⟩)) (K rS u5):=hS
def XD(x:ci):ci:={x with As:=u5}
def jc(s:ae):Nat->ae
 |0=>{s with From:=XD s.From}
 |k+1=>match s.Joins[k]? with
  |some j=>{s with Joins:=s.Joins.set k {j with Source:=XD j.Source}}
  |none=>s
def rd(s:ae):List ci:=s.From::s.Joins.map (·.Source)
def CE(was:cj):List ev->Option (List ev)
 |[]=>some []
 |x::l=>(lS x.Tree was u5).bind fun t=>(CE was l).bind fun l' =>some ({x with Tree:=t}::l')
def CD(was:cj):List g9->Option (List g9)
 |[]=>some []
 |x::l=>(lS x.On was u5).bind fun t=>(CD was l).bind fun l' =>some ({x with On:=t}::l')
def uy(was:cj)(g:gk):gk:=if(g.Table==was)=true then{g with Table:=u5}else g
def zOr(z:ci):Bool:=(z.As==u5)||(z.Table==u5)
def mi(r1:aw)(r2:be)(b:bf)(ix:Int)(s2:ae):Option Bool:=
 (oL r2).bind fun r5=>(ep r5.Selects ix).bind fun _=>
 (mN r1 {r5 with Selects:=r5.Selects.set ix.toNat s2}).bind fun r6=>
 if(r6.2.2==(0:Int))=true then ue b r6.1 else some false
def kr(r1:aw)(r2:be)(b:bf)(ix:Int)(s1:ae)(was:cj):Option Bool:=
 (CE was s1.Items).bind fun l1=>(CD was s1.Joins).bind fun l2=>
 (lS s1.Where was u5).bind fun wh=>(lS s1.Having was u5).bind fun hv=>
 mi r1 r2 b ix ⟨s1.Distinct,s1.Star,l1,s1.From,l2,wh,hv,s1.Group.map (uy was)⟩
def eU(r1:aw)(r2:be)(b:bf)(ix:Int)(s:ae)(w:Nat)(x:ci)(l:List ci):Option Bool:=
 if l.any zOr=true then some true else kr r1 r2 b ix (jc s w) (xx x)
def oM(p:aw)(y:be)(n:List Int):Option Bool:=
 (yY).bind fun r=>if(!r)=true then some false else
 (vj p).bind fun r1=>(oL y).bind fun r2=>(mN r1 r2).bind fun r3=>
 if(r3.2.2 !=(0:Int))=true then some true else
 (ep n (0:Int)).bind fun e=>(nz (IntKind.u64.wrap (r2.Selects.length:Int))).bind fun _=>
 (oL r2).bind fun r4=>(ep r4.Selects (IntKind.i64.wrap ((IntKind.u64.wrap e).tmod (IntKind.u64.wrap (r2.Selects.length:Int))))).bind fun s=>
 (if s.Joins.length<=1000 then some ()else none).bind fun _=>
 (ep n (1:Int)).bind fun e1=>(nz (IntKind.u64.wrap ((rd s).length:Int))).bind fun _=>
 (ep (rd s) (IntKind.i64.wrap ((IntKind.u64.wrap e1).tmod (IntKind.u64.wrap ((rd s).length:Int))))).bind fun x=>
 eU r1 r2 r3.1 (IntKind.i64.wrap ((IntKind.u64.wrap e).tmod (IntKind.u64.wrap (r2.Selects.length:Int)))) s (IntKind.i64.wrap ((IntKind.u64.wrap e1).tmod (IntKind.u64.wrap ((rd s).length:Int)))).toNat x (rd s)

def YT{r1:aw}{r2:be}{b:bf}{ix:Int}{s:ae}{w:Nat}{x z:ci}{l:List ci}{R:Bool}(h:eU r1 r2 b ix s w x (z::l)=some R)(hc:((z.As==(#[122,122,57]:Array UInt8).toList)||(z.Table==(#[122,122,57]:Array UInt8).toList))=true):R=true:=by
 have hz:zOr z=true:=hc
 unfold eU at h
 rw [A5,hz,Bool.true_or,bv rfl]at h
 exact(nR h).symm
def aaX{r1:aw}{r2:be}{b:bf}{ix:Int}{s:ae}{w:Nat}{x z:ci}{l:List ci}{R:Bool}(h:eU r1 r2 b ix s w x (z::l)=some R)(hc:((z.As==(#[122,122,57]:Array UInt8).toList)||(z.Table==(#[122,122,57]:Array UInt8).toList))=false):eU r1 r2 b ix s w x l=some R:=by
 have hz:zOr z=false:=hc
 unfold eU at h ⊢
 rw [A5,hz,An]at h
 exact h
def YU{r1:aw}{r2:be}{b:bf}{ix:Int}{s:ae}{w:Nat}{x:ci}{R:Bool}(h:eU r1 r2 b ix s w x []=some R):kr r1 r2 b ix (jc s w) (xx x)=some R:=by
 unfold eU at h
 rw [List.any_nil,bm (by decide)]at h
 exact h

def YS{n:Int}{b aN:bf}{R:Bool}(h:(if(n==(0:Int))=true then ue b aN else some false)=some R): ∃rb,((n==(0:Int))=true->ue b aN=some rb)/\R=((n==(0:Int))&&rb):=by
 cases hc:(n==(0:Int))with
 |true=>rw [hc,bv rfl]at h;exact⟨R,(fun _=>h),rfl⟩
 |false=>rw [hc,bm (by decide)]at h;exact⟨false,(fun k=>by cases k),(nR h).symm⟩

abbrev PV:=Option Nat×Nat
def rP:Rp PV where
 sz:=1
 agg:=false
 rc:=fun _ cs x=>cs=[bh x.1 x.2]
 mono:=fun _ h=>h
 len:=fun h=>by rw [h];rfl
 one:=fun{_ cs x} h c hc=>by
  subst h
  simp at hc;subst hc
  obtain⟨l,o⟩:=x
  cases l<;>rfl
 sc:=fun _=>rfl
def hP{N:Fr}{G:lY}{x:Operand}{l:Option Nat}{o:Nat}(h:aL N G x (Z (bh l o))):aL N G x (K rP (l,o)):=fun S a hf=>⟨[bh l o],h S a hf,rfl⟩
def acq{S:SH}{v:Value}{p:PV}(h:(K rP p).p S v):(Z (bh p.1 p.2)).p S v:=by
 obtain⟨cs,A,V⟩:=h
 have h3:cs=[bh p.1 p.2]:=V
 subst h3
 exact A
def Ks{E:En}{O:List OE}{G:lY}{o:Oper}{u v:Value}(h:ce E O G o (K rV u))(e:u=v:=by rfl):ce E O G o (Z v):=h.imp fun _ _ h=>e▸(zK.1 h).1
def aaP{E:En}{O:List OE}{G:lY}{o:Oper}{p:PV}(h:ce E O G o (K rP p)):ce E O G o (Z (bh p.1 p.2)):=h.imp fun _ _ h=>acq h
def mt(aS aJ:PV)(ix:Nat):Nat->PV
 |0=>(aS.1,ix*9+3)
 |k+1=>(aJ.1,k*4+1)
def Ln(aS aJ:PV)(ix n:Nat):List PV:=mt aS aJ ix 0::(List.range n).map fun k=>mt aS aJ ix (k+1)
def pj(s:ae):Nat->Option ci
 |0=>some s.From
 |k+1=>s.Joins[k]?.map (·.Source)
def Rm{α:Type}{xs:List α}{i:Nat}(h:xs.drop i=[])(k:i<=xs.length):i=xs.length:=by have:=Gc.1 h;omega
def tL{α:Type}{l:List α}{i:Int}{x:α}(h:0<=i)(k:i.toNat<l.length):ep (l.set i.toNat x) i=some x:=by
 obtain⟨m,rfl⟩:=Int.eq_ofNat_of_zero_le h
 rw [fE,wy,Ls (by simpa using k)]
def YI(s:ae)(h:s.Joins.length<=1000):(rd s).length<=1001:=by simp [rd];omega
def RT{α:Type}{l tl:List α}{i:Nat}{b:α}(h:l.drop i=b::tl):l.take (i+1)=l.take i++[b]:=by
 have hi:i<l.length:=EJ.1 (nl h)
 rw [List.take_add_one,qf hi]
 have:=d6 h
 rw [fE,qf hi]at this
 rw [nR this];rfl
def GE{α:Type}{l tl:List α}{i:Nat}{b b2:α}(h:l.drop i=b::tl):(l.set i b2).drop (i+1)=tl/\(l.set i b2).take (i+1)=l.take i++[b2]:=by
 have hi:i<l.length:=EJ.1 (nl h)
 have e:l=l.take i++b::tl:=by rw [<-h,ra]
 have hl:(l.take i).length=i:=by simp;omega
 have e2:l.set i b2=l.take i++b2::tl:=by
  conv=>lhs;rw [e]
  rw [List.set_append_right _ _ (by omega),hl,EL];rfl
 rw [e2]
 constructor
 ·rw [List.drop_append,hl,o6 (by omega),show i+1-i=1 from by omega];rfl
 ·rw [List.take_append,hl,oB (by omega),show i+1-i=1 from by omega];rfl
def cb8:aj aY 8=true:=by kernel_rfl
def cb9:aj aY 9=true:=by kernel_rfl
def Wx(aS aJ:PV)(ix:Nat)(s:ae):(Ln aS aJ ix s.Joins.length).length=(rd s).length:=by simp [Ln,rd]
def Um(aS aJ:PV)(ix n:Nat):Ln aS aJ ix n++[mt aS aJ ix (n+1)]=Ln aS aJ ix (n+1):=by
 simp [Ln,List.range_succ]
def Ov{aS aJ:PV}{ix:Nat}{s:ae}{w:Int}{x:ci}(h:ep (rd s) w=some x):ep (Ln aS aJ ix s.Joins.length) w=some (mt aS aJ ix w.toNat)/\pj s w.toNat=some x:=by
 obtain⟨h0,A⟩:=eM h
 obtain⟨k,rfl⟩:=Int.eq_ofNat_of_zero_le h0
 rw [fE]
 simp only [wy]at A ⊢
 cases k with
 |zero=>exact⟨rfl,A⟩
 |succ k=>
  have V:(s.Joins.map (·.Source))[k]? =some x:=A
  rw [Dz]at V
  refine⟨?_,V⟩
  have hk:k<s.Joins.length:=by
   cases hj:s.Joins[k]? with
   |none=>rw [hj]at V;cases V
   |some j=>exact(o5.1 hj).1
  show((List.range s.Joins.length).map fun k=>mt aS aJ ix (k+1))[k]? =_
  rw [Dz,List.getElem?_range hk];rfl
section
variable{E:En}{O:List OE}{G:lY}{dst:Option Tmp}{ty:TypeId}{pos:String}{after:Array Edge}{g:Option (Nat×Bool)}{p:Operand}
variable{aS aI aJ aG:PV}{os:List eX}{ix:Int}{s:ae}{w:Nat}{x:ci}
def Cs(hA:dv av 53 aS.1 aS.2 os∈O)(hJ:dv cz 57 aJ.1 aJ.2 s.Joins∈O)(hg:ep os ix=some (wX aI aJ aG s))(D:pj s w=some x)(hp:aL E.N G p (Z (bh (mt aS aJ ix.toNat w).1 (mt aS aJ ix.toNat w).2))):
  ce E O G ⟨dst,.nilCheck p,ty,pos,after,g⟩ (Z (bh (mt aS aJ ix.toNat w).1 (mt aS aJ ix.toNat w).2)):=by
 cases w with
 |zero=>exact fC hA hg hp
 |succ k=>
  cases hj:s.Joins[k]? with
  |none=>simp [pj,hj]at D
  |some j=>exact fC hJ (j:=(k:Int)) (by rw [fE];exact hj) hp
def Cu{i off sz:Nat}(hf:bp E.P 46 i=some (off,sz))(h0:Nat.beq sz 0=false)(hA:dv av 53 aS.1 aS.2 os∈O)(hJ:dv cz 57 aJ.1 aJ.2 s.Joins∈O)(hg:ep os ix=some (wX aI aJ aG s))(D:pj s w=some x)(hp:aL E.N G p (Z (bh (mt aS aJ ix.toNat w).1 (mt aS aJ ix.toNat w).2))):
  ce E O G ⟨dst,.fieldAddr 46 p i,ty,pos,after,g⟩ (Z (bh (mt aS aJ ix.toNat w).1 ((mt aS aJ ix.toNat w).2+off))):=by
 cases w with
 |zero=>exact vM hf h0 hA hg hp
 |succ k=>
  cases hj:s.Joins[k]? with
  |none=>simp [pj,hj]at D
  |some j=>exact vM hf h0 hJ (j:=(k:Int)) (by rw [fE];exact hj) hp
def Ct{off sz bytes:Nat}{agg:Bool}{z:List Value}{get:ci->cj}(ti:TI E.P 9 sz bytes agg z)(hsz:rS.sz=sz)(hag:rS.agg=agg)(hl:ju fS off rS get)(H:Nat.ble (off+1) 2=true)(hA:dv av 53 aS.1 aS.2 os∈O)(hJ:dv cz 57 aJ.1 aJ.2 s.Joins∈O)(hg:ep os ix=some (wX aI aJ aG s))(D:pj s w=some x)
  (hp:aL E.N G p (Z (bh (mt aS aJ ix.toNat w).1 ((mt aS aJ ix.toNat w).2+off)))):ce E O G ⟨dst,.load 9 p,ty,pos,after,g⟩ (K rS (get x)):=by
 have hb' :=rm H
 cases w with
 |zero=>
  have e:x=s.From:=by simpa [pj] using D.symm
  subst e
  exact cb (r:=av) (q:=rS) (get:=fun y=>get y.From) (y:=wX aI aJ aG s) (i:=ix) (foff:=3+off) ti hsz hag (fV vr hl H) (Nat.ble_eq_true_of_le (by show 3+off+1<=9;omega)) hA hg (by
   have e:ix.toNat*av.sz+(3+off)=(mt aS aJ ix.toNat 0).2+off:=by show ix.toNat*9+(3+off)=ix.toNat*9+3+off;omega
   rw [e];exact hp)
 |succ k=>
  cases hj:s.Joins[k]? with
  |none=>simp [pj,hj]at D
  |some j=>
   have e:x=j.Source:=by simpa [pj,hj] using D.symm
   subst e
   exact cb (r:=cz) (q:=rS) (get:=fun y=>get y.Source) (y:=j) (i:=(k:Int)) (foff:=1+off) ti hsz hag (fV z8 hl H) (Nat.ble_eq_true_of_le (by show 1+off+1<=4;omega)) hJ (by rw [fE];exact hj) (by
    have e:((k:Int)).toNat*cz.sz+(1+off)=(mt aS aJ ix.toNat (k+1)).2+off:=by show k*4+(1+off)=k*4+1+off;omega
    rw [e];exact hp)
end
def m5{s:ae}{k:Nat}{j:g9}(h:s.Joins[k]? =some j):jc s (k+1)={s with Joins:=s.Joins.set k {j with Source:=XD j.Source}}:=by
 show(match s.Joins[k]? with|some j=>_|none=>s)=_
 rw [h]
def ry{s:ae}{k:Nat}(h:s.Joins[k]? =none):jc s (k+1)=s:=by
 show(match s.Joins[k]? with|some j=>_|none=>s)=_
 rw [h]
def YX{aI aJ aG:PV}{s:ae}{k:Nat}:wX aI aJ aG (jc s (k+1))=wX aI aJ aG s:=by
 cases hj:s.Joins[k]? with
 |none=>rw [ry hj]
 |some j=>
  rw [m5 hj]
  show cA _ _ _ _=cA _ _ _ _
  unfold cA
  simp
def Wt{α:Type}{l:List α}{i:Int}{x:α}(h:ep l i=some x):l.set i.toNat x=l:=by
 obtain⟨_,A⟩:=eM h
 obtain⟨V,h3⟩:=o5.1 A
 rw [<-h3];exact List.set_getElem_self V
def Nh{E:En}{G:lY}{af:Exit->Act->World->Prop}{ops:Array Oper}{rest:List Oper}{ty:TypeId}{pos:String}{after:Array Edge}{p v:Operand}{aS aI aJ aG:PV}{os:List eX}{ix:Int}{s:ae}{w:Nat}{x:ci}{sz bytes:Nat}{agg:Bool}{z:List Value}(ti:TI E.P 9 sz bytes agg z)(hsz:rS.sz=sz)
  (hg:ep os ix=some (wX aI aJ aG s))(D:pj s w=some x)(hp:aL E.N G p (Z (bh (mt aS aJ ix.toNat w).1 ((mt aS aJ ix.toNat w).2+1))))(hv:aL E.N G v (K rS u5))
  (k:RG E ops af rest (dv av 53 aS.1 aS.2 (os.set ix.toNat (wX aI aJ aG (jc s w)))::G3 aI aJ aG (jc s w)) G):
  RG E ops af (⟨none,.store 9 p v,ty,pos,after,none⟩::rest) (dv av 53 aS.1 aS.2 os::G3 aI aJ aG s) G:=by
 cases w with
 |zero=>
  exact ir (r:=av) (i:=ix) (foff:=4) ti hsz (j8 vr Cy E1) rfl hg rfl (by
   have e:ix.toNat*av.sz+4=(mt aS aJ ix.toNat 0).2+1:=by show ix.toNat*9+4=ix.toNat*9+3+1;omega
   rw [e];exact hp) hv k
 |succ m=>
  cases hj:s.Joins[m]? with
  |none=>simp [pj,hj]at D
  |some j=>
   refine gw ?_
   refine ir (r:=cz) (i:=(m:Int)) (foff:=2) ti hsz (j8 z8 R5 E1) rfl (by rw [fE];exact hj) rfl (by
    have e:((m:Int)).toNat*cz.sz+2=(mt aS aJ ix.toNat (m+1)).2+1:=by show m*4+2=m*4+1+1;omega
    rw [e];exact hp) hv ?_
   refine gw ?_;refine gw ?_
   rw [YX,Wt hg]at k
   rw [m5 hj]at k
   exact k
def acL{base:Nat}{B:Nat->Prop}{w:World}{S:SH}{O:List OE}{aI aJ aG:PV}{its:List ev}{js:List g9}{gs:List gk}{s2:ae}{cs:List Value}(ho:du base B w S O)(mI:d cv 59 aI.1 aI.2 its∈O)(mJ:d cz 57 aJ.1 aJ.2 js∈O)(mG:d cK 62 aG.1 aG.2 gs∈O)
  (hI:its.length=s2.Items.length)(hJ:js.length=s2.Joins.length)(hG:gs.length=s2.Group.length)(h:av.rc S cs (wX aI aJ aG s2)):aR.rc S cs ⟨s2.Distinct,s2.Star,its,s2.From,js,s2.Where,s2.Having,gs⟩:=
 om (y:=s2) (hI▸ly ho mI) (hJ▸ly ho mJ) (hG▸ly ho mG) h
def Sr{E:En}{O:List OE}{G:lY}{dst:Option Tmp}{ty:TypeId}{pos:String}{after:Array Edge}{g:Option (Nat×Bool)}{α β:Type}{mm:Bool}{r:Rp α}{q:Rp β}{U T:TypeId}{l:Option Nat}{cap:Nat}{xs:List α}{y:α}{v:β}{i:Int}{sz bytes:Nat}{agg:Bool}{z:List Value}{p:Operand}(ti:TI E.P T sz bytes agg z)(hsz:q.sz=sz)(hag:q.agg=agg)(hrs:q.sz=r.sz)
  (hm:ku mm r U l cap xs∈O)(hy:ep xs i=some y)(hc: ∀w S cs,du E.base E.B w S O->r.rc S cs y->q.rc S cs v)(hp:aL E.N G p (Z (bh l (i.toNat*r.sz+0)))):ce E O G ⟨dst,.load T p,ty,pos,after,g⟩ (K q v):=
 .of_pure fun a w S _ ho hf=>by
  have A:a.eval p=bh l (i.toNat*r.sz+0):=hp S a hf
  obtain⟨h0,hy'⟩:=eM hy
  obtain⟨b,cur,rfl,H,_,_,h6⟩:=nE (ho.mem _ hm).1 hy'
  have h7:q.rc S ((cur.toList.drop (i.toNat*r.sz)).take q.sz) v:=by rw [hrs];exact hc w S _ ho h6
  refine⟨_,?_,_,rfl,h7⟩
  simp [execOp,A,bh,al,Instr.loadAt,Instr.sureAddr,iu ti H hsz hag h7]
end Go.Proofs.YtigldkegamffhaaGreatDoor

