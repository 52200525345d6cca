/- co of this claim: Z2. -/
import Derived.Test.YtmogpgcfognefaaGreatDoorNeZ1
import Derived.Test.YtmogpgcfognefaaGreatDoorNeY15
set_option linter.all false
namespace Go.Proofs.YtmogpgcfognefaaGreatDoor
open Go

def jz:aK:=⟨1,-1,-1,0,[2,2,2,2],false,⟨[]⟩,[],[],[],[],0⟩
def tZ(its:List bf):aK:=⟨5,0,-1,0,[],false,⟨[]⟩,[],[],its,[],0⟩
def sk(gks:List Int):aK:=⟨4,0,-1,0,[],false,⟨[]⟩,gks,[],[],[],0⟩
def AH(own:List Int):aK:=⟨9,-1,-1,0,own,false,⟨[]⟩,[],[],[],[],0⟩
def Xv:aK:=⟨0,0,0,0,[],false,⟨[]⟩,[],[],[],[],0⟩
def vx(ns:List aK):al:=⟨ns,[],[],Xv,[],[],[]⟩
def hG(n:aK)(own:List Int):hJ:=⟨[⟨[jz,n],1,3,[]⟩,⟨[AH own],2,4,[]⟩]⟩
theorem Dt(ns:List aK):Cy ns (vx ns) 0:=⟨rfl,rfl,fun p hp=>(by cases hp),gp _,fun k hk=>(by cases hk),fun j hj=>by omega⟩
theorem SD:pO jz:=⟨by decide,by decide,by decide,by decide,by decide,by decide,fun g hg=>(by cases hg),fun e he=>(by cases he)⟩
theorem SA{its:List bf}(h: ∀e∈its,nW e)(hl:its.length≤100):pO (tZ its):=
 ⟨by show 0≤5000;omega,by show 0≤5000;omega,by show 0≤5000;omega,by show 0≤5000;omega,by show its.length≤5000;omega,by show 0≤5000;omega,fun g hg=>(by cases hg),fun e he=>GC (h e he)⟩
theorem SC{gks:List Int}(hl:gks.length≤100):pO (sk gks):=
 ⟨by show 0≤5000;omega,by show 0≤5000;omega,by show gks.length≤5000;omega,by show 0≤5000;omega,by show 0≤5000;omega,by show 0≤5000;omega,fun g hg=>(by cases hg),fun e he=>(by cases he)⟩
theorem SB{own:List Int}(hl:own.length≤100):pO (AH own):=
 ⟨by show 0≤5000;omega,by show own.length≤5000;omega,by show 0≤5000;omega,by show 0≤5000;omega,by show 0≤5000;omega,by show 0≤5000;omega,fun g hg=>(by cases hg),fun e he=>(by cases he)⟩
theorem DO{ns:List aK}{l:al}{i:Nat}(h:Cy ns l i)(hi:i≤100)(ho:l.open_.length=1):gn ns ((mz).getD []) [] i (-1) l=some (l.kinds,0,0):=by
 unfold gn pe
 rw [dd (by simp [ho])]
 unfold pc
 rw [dd (by decide),Aj l.kinds [] (fun k hk=>by have:=h.kinds k hk;omega) (by have:=h.len;simp;omega),nF]
theorem BU{ns:List aK}{l:al}{i:Nat}(h:Cy ns l i)(hi:i<90)(hn:ns.length≤90){e:aK}{tl:List aK}(he:ns[i]? =some e)(hs:pO e)(hp:PlN e l.open_.reverse)(ho:Gs e=true)(hsum:ux e (kA l.kinds e.A) (kA l.kinds e.B)=true)(hroot:wt ns e i=false){R:List Int}(hR:R.length≤16)(hask:rk e.Op (AG l e (kA l.kinds e.A) (kA l.kinds e.B)) ()=some (true,{AG l e (kA l.kinds e.A) (kA l.kinds e.B)with result:=R})):
  ∃l',Cy ns l' (i+1)∧l'.kinds=l.kinds++[R]∧l'.open_.reverse=(i:Int)::l.open_.reverse.drop (wy e.Op).toNat∧gn ns ((mz).getD []) (e::tl) i (-1) l=gn ns ((mz).getD []) tl (i+1) (-1) l' :=by
 obtain⟨l',t1,t2⟩:=HB h (by omega) (by omega) he hs hp ho hask
 have hok:(ux e (kA l.kinds e.A) (kA l.kinds e.B)&&(!(wt ns e i)&&(true&&decide (R.length≤16))))=true:=by rw [hsum,hroot];simpa using hR
 rw [hok]at t1
 obtain⟨ok2,l2,q1,_,q3⟩:=Mj h (by omega) (by omega) he hs
 rw [t1]at q1
 cases q1
 refine⟨l',q3 rfl,(t2 hok).1,(t2 hok).2,?_⟩
 conv=>lhs;unfold gn
 have t1' :gH l (i:Int) ((nV ((mz).getD []) e.Op).getD (fun _ _=>none))=some (true,l'):=t1
 rw [t1',cq,dd (by simp)]
theorem DN{n:aK}{own:List Int}(hn:pO n)(hp:wy n.Op=1)(hA:n.A=0)(hB:n.B= -1)(ho:Gs n=true)(h8:(n.Op==8)=false)(h10:(n.Op==10)=false)(hown:own.length≤16)(hask: ∀l:al,l.n=n→l.a_=Il→rk n.Op l ()=some (true,{l with result:=own})):jY [jz,n]=some ([Il,own],0,0):=by
 show gn [jz,n] ((mz).getD []) [jz,n] 0 (-1) (vx [jz,n])=_
 obtain⟨l1,a1,a2,a3,a4⟩:=BU (Dt [jz,n]) (by omega) (by show 2≤90;omega) (e:=jz) (tl:=[n]) rfl SD (.inl ⟨rfl,rfl,rfl⟩) rfl rfl rfl (R:=Il) (by decide) (by rfl)
 rw [a4]
 have hrev:l1.open_.reverse=[0]:=a3
 have hk:l1.kinds=[Il]:=a2
 obtain⟨l2,b1,b2,b3,b4⟩:=BU a1 (by omega) (by show 2≤90;omega) (e:=n) (tl:=[]) rfl hn (.inr (.inl ⟨hp,hB,[],by rw [hrev,hA]⟩)) ho (by
  rw [hk,hA,hB,BV]
  unfold ux
  have:((4:Int)∈kA [Il] 0)=False:=by rw [eq_iff_iff,iff_false];decide
  simp [this]) (by unfold wt;rw [h8,h10];rfl) hown (hask _ rfl (by rw [hk,hA];rfl))
 have e:0+1=1:=rfl
 rw [e]at b4 ⊢
 rw [b4,DO b1 (by omega) (by rw [←List.length_reverse,b3,hrev,hp];rfl),b2,hk]
 rfl
theorem ML{own:List Int}(h:E7 (AH own)=true):jY [AH own]=some ([own],0,0):=by
 have hle:=(S4 h).le
 show gn [AH own] ((mz).getD []) [AH own] 0 (-1) (vx [AH own])=_
 obtain⟨l1,a1,a2,a3,a4⟩:=BU (Dt [AH own]) (by omega) (by show 1≤90;omega) (e:=AH own) (tl:=[]) rfl (SB (by have:own.length≤16:=hle;omega)) (.inl ⟨rfl,rfl,rfl⟩) rfl rfl rfl (R:=own) hle (by
  show fU _=_
  rw [Im]
  have:E7 (AG (vx [AH own]) (AH own) (kA (vx [AH own]).kinds (AH own).A) (kA (vx [AH own]).kinds (AH own).B)).n=true:=h
  rw [this]
  rfl)
 rw [a4,DO a1 (by omega) (by rw [←List.length_reverse,a3];rfl),a2]
 rfl
theorem H1{its:List bf}(h: ∀e∈its,nW e)(h1:1≤its.length)(h6:its.length≤6):jY [jz,tZ its]=some ([Il,List.replicate its.length 2],0,0):=by
 refine DN (SA h (by omega)) rfl rfl rfl rfl rfl rfl (by rw [CL];omega) (fun l hn ha=>?_)
 show gv l=_
 unfold gv
 rw [show l.n.Items=its from by rw [hn];rfl]
 obtain⟨ok,R,e1,e2,e3⟩:=I9 (l:=l) its [] (fun e he=>GC (h e he)) (by simp;omega)
 have hall:(its.all fun e=>(rD e l.a_).2==0)=true:=by
  rw [kZ]
  intro e he
  rw [ha,DQ (h e he)];rfl
 have hok:ok=true:=by rw [e2,hall];simp;omega
 have hmap:(its.map fun e=>(rD e l.a_).1)=List.replicate its.length 2:=by
  rw [List.eq_replicate_iff]
  refine⟨by simp,fun x hx=>?_⟩
  obtain⟨e,he,rfl⟩:=Bf.1 hx
  rw [ha,DQ (h e he)]
 have hR:=e3 hok
 rw [nF,hmap]at hR
 rw [hok,hR]at e1
 exact e1
theorem GJ{gks:List Int}(h: ∀k∈gks,0≤k∧k<4)(h1:1≤gks.length)(h3:gks.length≤3):jY [jz,sk gks]=some ([Il,List.replicate gks.length 2],0,0):=by
 refine DN (SC (by omega)) rfl rfl rfl rfl rfl rfl (by rw [CL];omega) (fun l hn ha=>?_)
 show eD l=_
 unfold eD
 rw [show l.n.Keys=gks from by rw [hn];rfl]
 show dl l gks {l with result:=[]}=_
 have key: ∀(ks R:List Int),(∀k∈ks,0≤k∧k<4)→R.length+ks.length≤100→dl l ks {l with result:=R}=some (true,{l with result:=R++List.replicate ks.length 2}):=by
  intro ks
  induction ks with
  |nil=>
   intro R _ _
   unfold dl
   rw [show l.n.Keys=gks from by rw [hn];rfl,show l.n.Aggs=[]from by rw [hn];rfl]
   show cw [] (((decide ((gks.length:Int)≤(3:Int)))&&(decide ((([]:List jx).length:Int)≤(12:Int))))&&(decide ((0:Int)<(IntKind.i64.wrap ((gks.length:Int)+(([]:List jx).length:Int)))))) {l with result:=R}=_
   have e1:(((decide ((gks.length:Int)≤(3:Int)))&&(decide ((([]:List jx).length:Int)≤(12:Int))))&&(decide ((0:Int)<(IntKind.i64.wrap ((gks.length:Int)+(([]:List jx).length:Int))))))=true:=by
    rw [lW (by simp<;>omega) (by simp<;>omega)];simp<;>omega
   rw [e1]
   unfold cw
   simp
  |cons k ks ih=>
   intro R hk hl
   have hk0:=hk k (lV ..)
   simp only [nG]at hl
   unfold dl
   have hb:EW l.a_ k=false:=by
    rw [ha]
    unfold EW
    show(decide (k<0)||decide ((4:Int)≤k))=false
    simp;omega
   have hv:SZ l.a_ k=2:=by
    have:=SY hb
    rw [ha]at this ⊢
    have hm: ∀x∈Il,x=2:=by decide
    exact hm _ this
   show(if EW l.a_ k=true then some (false,{l with result:=R})else(dR l.a_ k).bind fun e2=>(kE R [e2]).bind fun l9=>dl l ks {l with result:=l9})=_
   rw [hb,dd (by simp),MU hb,cq,hv,dM (by simp;omega),cq,ih _ (fun x hx=>hk x (kG _ hx)) (by simp;omega)]
   simp [FQ]
 have:=key gks [] h (by simp;omega)
 rw [nF]at this
 exact this
def ON(b0 b1 b2 b3:Bool):List Int:=(((if b0 then [0]else [])++(if b1 then [1]else []))++(if b2 then [2]else []))++(if b3 then [3]else [])
def kf(ks:List Int):bu:=⟨[116],[⟨[97],2⟩,⟨[98],2⟩,⟨[99],2⟩,⟨[100],2⟩],ks⟩
theorem Ol: ∀b0 b1 b2 b3:Bool,G5 ⟨[kf (ON b0 b1 b2 b3)]⟩=true:=by
 intro b0 b1 b2 b3
 cases b0<;>cases b1<;>cases b2<;>cases b3<;>decide
theorem Ji(b0 b1 b2 b3:Bool):(∀k∈ON b0 b1 b2 b3,0≤k∧k<4)∧(ON b0 b1 b2 b3).length≤4:=by
 cases b0<;>cases b1<;>cases b2<;>cases b3<;>decide
section
variable{ks:List Int}{n:aK}{own:List Int}
def NY(own:List Int):List (List (List Int)):=[[Il,own],[own]]
theorem NB(hcat:G5 ⟨[kf ks]⟩=true)(hks:ks.length≤4)(h1:n.Op=5∨n.Op=4)(hK:jY [jz,n]=some ([Il,own],0,0))(hI:E7 (AH own)=true)(h4:(4:Int)∉own):oH (hG n own) ⟨[kf ks]⟩=some (some ⟨hG n own,⟨[kf ks]⟩,NY own⟩,0,0,0):=by
 have hc:NH ⟨[kf ks]⟩:=fun t ht=>by rw [uk.1 ht];show ks.length≤100000;omega
 unfold oH
 rw [zr hc,hcat,cq]
 show jX (hG n own) [⟨[jz,n],1,3,[]⟩,⟨[AH own],2,4,[]⟩] 0 ⟨hG n own,⟨[kf ks]⟩,[]⟩=_
 unfold jX
 rw [hK,cq,dd (by simp)]
 show((gw (some ⟨hG n own,⟨[kf ks]⟩,[]⟩) ⟨[jz,n],1,3,[]⟩ own).bind _)=_
 have hf0:gw (some ⟨hG n own,⟨[kf ks]⟩,[]⟩) ⟨[jz,n],1,3,[]⟩ own=some true:=by
  unfold gw
  rw [dd (by show¬((((((1:Int) !=1&&(1:Int) !=2)||decide ((3:Int)<1))||decide ((4:Int)<3))||(((3:Int)==1) !=decide ((0:Int)<0)))||decide ((16:Int)<0))=true;decide)]
  show((ci [] (iM own)).bind _)=_
  rw [show ci [] (iM own)=some false from rfl,cq,dd (by simp)]
  show((cS [jz,n] (iL ⟨[jz,n],1,3,[]⟩ (some ⟨hG n own,⟨[kf ks]⟩,[]⟩))).bind _)=_
  rw [AO (g:=fun _=>false) (fun m hm=>by
   rcases iC.1 hm with rfl|hm
   ·rfl
   ·rw [uk.1 hm]
    unfold iL
    rw [dy (by rcases h1 with h|h<;>rw [h]<;>rfl)])]
  rfl
 rw [hf0,cq,dd (by simp)]
 show jX (hG n own) [⟨[AH own],2,4,[]⟩] 1 ⟨hG n own,⟨[kf ks]⟩,[[Il,own]]⟩=_
 unfold jX
 have hI' :jY (⟨[AH own],2,4,[]⟩:gJ).Nodes=some ([own],0,0):=ML hI
 rw [hI',cq,dd (by simp)]
 show((dR ([own]:List (List Int)) (0:Int)).bind _)=_
 rw [show dR ([own]:List (List Int)) (0:Int)=some own from rfl,cq]
 show((gw (some ⟨hG n own,⟨[kf ks]⟩,[[Il,own]]⟩) ⟨[AH own],2,4,[]⟩ own).bind _)=_
 rw [show gw (some ⟨hG n own,⟨[kf ks]⟩,[[Il,own]]⟩) ⟨[AH own],2,4,[]⟩ own=some true from rfl,cq,dd (by simp)]
 show lw ⟨hG n own,⟨[kf ks]⟩,NY own⟩ [⟨[jz,n],1,3,[]⟩,⟨[AH own],2,4,[]⟩] 0=_
 unfold lw
 have hn9:(n.Op==9)=false:=by rcases h1 with h|h<;>rw [h]<;>rfl
 have hr0:kM (some ⟨hG n own,⟨[kf ks]⟩,NY own⟩) ((0:Nat):Int)=some true:=by
  show dC (some ⟨hG n own,⟨[kf ks]⟩,NY own⟩) 0 ⟨[jz,n],1,3,[]⟩ [jz,n]=_
  show dC (some ⟨hG n own,⟨[kf ks]⟩,NY own⟩) 0 ⟨[jz,n],1,3,[]⟩ [n]=_
  unfold dC
  rw [dd (by rw [hn9];simp),cq,dd (by simp)]
  unfold dC
  rw [cq,DU,cq]
  have hrd:Ow (0:Int) (hG n own).Frags 0=[(1,0)]:=by
   show Ov 0 0 [jz,n] 0++[((1:Int),(0:Int))]=_
   have:Ov 0 0 [jz,n] 0=[]:=by
    show(if(n.Op==(9:Int))&&(n.Table==0)then _ else _)=_
    rw [hn9];rfl
   rw [this];rfl
  show(CX (Cm (fun(y:Int×Int) (s:Bool×Int)=>js (some ⟨hG n own,⟨[kf ks]⟩,NY own⟩) y s.1 s.2)) (Ow (0:Int) (hG n own).Frags 0) (false,(0:Int)) some).bind _=_
  rw [hrd]
  rfl
 rw [hr0,cq,dd (by simp)]
 unfold lw
 have hr1:kM (some ⟨hG n own,⟨[kf ks]⟩,NY own⟩) ((0+1:Nat):Int)=some true:=by
  show((if(!(decide ((1:Int)≤0)))then((some own).bind fun r2=>(ga own r2).bind fun r3=>some (!r3))else some true).bind fun t2=>some t2).bind (fun t1=>if t1 then(some false)else(dC (some ⟨hG n own,⟨[kf ks]⟩,NY own⟩) ((1:Nat):Int) ⟨[AH own],2,4,[]⟩ []))=_
  rw [dy (by decide),cq,FE,cq,cq,cq,dd (by simp)]
  unfold dC
  rw [cq,DU,cq]
  have hrd:Ow (((1:Nat):Int)) (hG n own).Frags 0=[]:=by
   show Ov 1 0 [jz,n] 0++[]=_
   have:Ov 1 0 [jz,n] 0=[]:=by
    show(if(n.Op==(9:Int))&&(n.Table==1)then _ else _)=_
    rw [hn9];rfl
   rw [this];rfl
  show(CX (Cm (fun(y:Int×Int) (s:Bool×Int)=>js (some ⟨hG n own,⟨[kf ks]⟩,NY own⟩) y s.1 s.2)) (Ow (((1:Nat):Int)) (hG n own).Frags 0) (false,(0:Int)) some).bind _=_
  rw [hrd]
  show((some own).bind fun r=>(df r (4:Int)).bind fun r1=>some (!r1)).bind (fun t=>some t)=_
  rw [cq,pP,wJ h4]
  rfl
 rw [hr1,cq,dd (by simp)]
 rfl
theorem DX{at1:Int→Option Int}(ha: ∀c,∃r,at1 c=some r)(z:bE): ∀(l cols:List Int),cols.length+l.length≤1000→ ∃y,mb at1 l cols z=some y∧(y.Kind=2→ ∃ds,y.Cols=cols++ds∧F2 (fun c d=>at1 c=some d∧0≤d) l ds)
 |[],cols,_=>⟨⟨2,cols⟩,rfl,fun _=>⟨[],by simp,.nil⟩⟩
 |c::l,cols,hl=>by
  simp only [nG]at hl
  obtain⟨r,hr⟩:=ha c
  unfold mb
  rw [hr,cq]
  by_cases h0:r<0
  ·rw [dy (by simpa using h0)]
   exact⟨_,rfl,fun h=>by cases h⟩
  ·rw [dd (by simpa using h0),dM (by simp;omega),cq]
   obtain⟨y,g1,g2⟩:=DX ha z l (cols++[r]) (by simp;omega)
   refine⟨y,g1,fun hy=>?_⟩
   obtain⟨ds,e1,e2⟩:=g2 hy
   exact⟨r::ds,by rw [e1];simp,.cons ⟨hr,by omega⟩ e2⟩
def iY(ks:List Int):bE:=if 0<ks.length then⟨2,ks⟩else⟨1,[]⟩
theorem KU(hks:ks.length≤4)(h1:n.Op=5∨n.Op=4)(hA:n.A=0)(hB:n.B= -1)(KS:List (List (List Int))){at1:Int→Option Int}(hat:I3 n.Op (some ⟨some ⟨hG n own,⟨[kf ks]⟩,KS⟩,n,iY ks,⟨0,[]⟩⟩)=jR (iY ks) at1)(ha: ∀c,∃r,at1 c=some r):
  ∃y,kN (some ⟨hG n own,⟨[kf ks]⟩,KS⟩) 0=some [iY ks,y]∧(y.Kind=2→(iY ks).Cols=ks∧F2 (fun c d=>at1 c=some d∧0≤d) ks y.Cols):=by
 have hy: ∃y,jR (iY ks) at1=some y∧(y.Kind=2→(iY ks).Cols=ks∧F2 (fun c d=>at1 c=some d∧0≤d) ks y.Cols):=by
  unfold jR iY
  by_cases hk:0<ks.length
  ·rw [dy hk,dd (by simp)]
   obtain⟨y,g1,g2⟩:=DX ha ⟨0,[]⟩ ks [] (by simp;omega)
   refine⟨y,g1,fun h=>⟨rfl,?_⟩⟩
   obtain⟨ds,e1,e2⟩:=g2 h
   rw [nF]at e1
   rw [e1]
   exact e2
  ·rw [dd hk,dy (by decide)]
   exact⟨_,rfl,fun h=>by cases h⟩
 obtain⟨y,hy1,hy2⟩:=hy
 refine⟨y,?_,hy2⟩
 have hscan:ki (some ⟨some ⟨hG n own,⟨[kf ks]⟩,KS⟩,jz,⟨0,[]⟩,⟨0,[]⟩⟩)=some (iY ks):=by
  unfold ki
  rw [cq,cq,cq]
  show(if(decide ((0:Int)<(ks.length:Int)))then((cD ks).bind fun r=>some (⟨2,r⟩:bE))else some (⟨1,[]⟩:bE))=_
  unfold iY
  by_cases hk:0<ks.length
  ·rw [dy (by simpa using hk),dy hk,tX _ (by omega)];rfl
  ·rw [dd (by simpa using hk),dd hk]
 show((ki (some ⟨some ⟨hG n own,⟨[kf ks]⟩,KS⟩,jz,⟨0,[]⟩,⟨0,[]⟩⟩)).bind fun r1=>fN (dj (some ⟨hG n own,⟨[kf ks]⟩,KS⟩) ⟨[jz,n],1,3,[]⟩ ((qW).getD []) [n]) [] r1)=_
 rw [hscan,cq]
 unfold fN
 rw [dM (by simp),cq,nF]
 unfold dj
 rw [dy (by rw [hA];decide),hA]
 show gO ⟨[jz,n],1,3,[]⟩ ((qW).getD []) (dj (some ⟨hG n own,⟨[kf ks]⟩,KS⟩) ⟨[jz,n],1,3,[]⟩ ((qW).getD []) []) n [iY ks] ⟨some ⟨hG n own,⟨[kf ks]⟩,KS⟩,n,iY ks,⟨0,[]⟩⟩=_
 unfold gO
 rw [dd (by rw [hB];decide)]
 unfold jt
 rw [dy (by rfl)]
 have hat' :((nV ((qW).getD []) n.Op).getD (fun _=>none)) (some ⟨some ⟨hG n own,⟨[kf ks]⟩,KS⟩,n,iY ks,⟨0,[]⟩⟩)=some y:=hat.trans hy1
 rw [hat',cq]
 unfold fN
 rw [dM (by simp),cq]
 rfl
end
end Go.Proofs.YtmogpgcfognefaaGreatDoor

