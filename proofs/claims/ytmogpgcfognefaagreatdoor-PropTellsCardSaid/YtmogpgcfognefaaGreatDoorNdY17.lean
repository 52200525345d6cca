/- di of this claim: Y17. -/
import Derived.Test.YtmogpgcfognefaaGreatDoorNdY16
import Derived.Test.YtmogpgcfognefaaGreatDoorNdY7
set_option linter.all false
namespace Go.Proofs.YtmogpgcfognefaaGreatDoor
open Go

theorem JF(col:Int): ∀(ks:List Int) (i:Nat),qm col ks i=eH col ks i
 |[],_=>rfl
 |k::ks,i=>by
  unfold qm eH
  by_cases h:k=col
  ·rw [bQ (by simp [h]),bQ (by simp [h])]
  ·rw [bI (by simpa using h),bI (by simpa using fun e:col=k=>h e.symm),JF col ks (i+1)]
theorem Ic(col:Int): ∀(es:List bp) (i:Nat),om col es i=cJ (dI col) es i
 |[],_=>rfl
 |e::es,i=>by
  unfold om cJ dI
  rw [Ic col es (i+1),Option.bind_assoc]
  congr 1
  funext t
  rw [Option.bind_assoc]
  rfl
theorem HS{n:aw}{at1:Int→Option Int}(h: ∀e,at1 e=if n.Op=5 then rL n.Items e else sM n.Keys e)(z:aS): ∀(l cols:List Int) (x:aS),iH n l x ⟨2,cols⟩=jQ at1 l cols z
 |[],_,_=>rfl
 |e::l,cols,x=>by
  unfold iH jQ
  rw [h e]
  obtain⟨j,hj,_⟩:=vT n.Keys e
  have hk:sM n.Keys e=some j:=(JF e n.Keys 0).trans hj
  have step: ∀r:Int,ol (iH n l) x ⟨2,cols⟩ r=if decide (r<(0:Int))then some (⟨1,[]⟩:aS)else(ko cols [r]).bind fun cols1=>jQ at1 l cols1 z:=by
   intro r
   unfold ol
   congr 1
   show((ko cols [r]).bind fun l1=>iH n l x ⟨2,l1⟩)=_
   congr 1
   funext l1
   exact HS h z l l1 x
  rw [hk,bA]
  by_cases h5:n.Op=5
  ·rw [bQ (by simp [h5]),bQ h5]
   congr 1
   funext r
   exact step r
  ·rw [bI (by simpa using h5),bI h5,bA]
   exact step j
theorem HT{n:aw}{at1:Int→Option Int}(h: ∀e,at1 e=if n.Op=5 then rL n.Items e else sM n.Keys e)(p:aS):pT n p=lX p at1:=by
 unfold pT lX
 rw [show({(⟨2,[]⟩:aS)with Cols:=([]:List Int)}:aS)=⟨2,[]⟩from rfl,HS h ⟨0,[]⟩]
def KD(q:da)(c:bG)(n:aw)(a b:aS):Option aS:=
 if n.Op=1 then(dC c.Tables n.Table).bind fun t=>some (if 0<t.Keys.length then⟨2,t.Keys⟩else⟨1,[]⟩)
 else if n.Op=9 then(dC q.Frags n.Table).bind fun g=>some (if g.Way=1 then⟨2,g.Cols⟩else⟨3,[]⟩)
 else if n.Op=7 then some (if(a.Kind=2∧b.Kind=2)∧a.Cols=b.Cols then a else⟨1,[]⟩)
 else if n.Op=5∨n.Op=4∨n.Op=10∨n.Op=11 then pT n a
 else some a
theorem E4{α:Type}{l:List α}{i:Int}{x:α}(h0:0≤i)(h:dC l i=some x):x∈l:=by
 rw [gR i.toNat (by omega)]at h
 exact qS h
section
variable{c:bG}{q:da}{KS:List (List (List Int))}
theorem NY(hs:qM c)(hcols: ∀g∈q.Frags,g.Cols.length≤1000){n:aw}(hT:n.Op=1∨n.Op=9→0≤n.Table)(hp:0≤kO n.Op)(a b:aS):KD q c n a b=rG n.Op (some ⟨some ⟨q,c,KS⟩,n,a,b⟩):=by
 unfold KD
 by_cases h1:n.Op=1
 ·rw [bQ h1]
  have he:rG n.Op=lr:=by rw [h1];rfl
  rw [he]
  unfold lr
  rw [bA,bA,bA]
  show _=(dC c.Tables n.Table).bind _
  cases ht:dC c.Tables n.Table with
  |none=>rfl
  |some t=>
   rw [bA,bA]
   by_cases hk:0<t.Keys.length
   ·rw [bQ hk,bQ (by simpa using hk),nr _ (by have:=hs t (E4 (hT (.inl h1)) ht);omega)];rfl
   ·rw [bI hk,bI (by simpa using hk)]
 by_cases h9:n.Op=9
 ·rw [bI h1,bQ h9]
  have he:rG n.Op=kh:=by rw [h9];rfl
  rw [he]
  unfold kh
  rw [bA,bA,bA]
  show _=(dC q.Frags n.Table).bind _
  cases ht:dC q.Frags n.Table with
  |none=>rfl
  |some g=>
   rw [bA,bA]
   by_cases hk:g.Way=1
   ·rw [bQ hk,bQ (by simp [hk]),nr _ (by have:=hcols g (E4 (hT (.inr h9)) ht);omega)];rfl
   ·rw [bI hk,bI (by simpa using hk)]
 by_cases h7:n.Op=7
 ·rw [bI h1,bI h9,bQ h7]
  have he:rG n.Op=kg:=by rw [h7];rfl
  rw [he]
  unfold kg
  simp only [bA,sK]
  by_cases ha:a.Kind=2
  ·by_cases hb:b.Kind=2
   ·by_cases hc:a.Cols=b.Cols
    ·simp [ha,hb,hc]
    ·simp [ha,hb,hc]
   ·simp [ha,hb]
  ·simp [ha]
 rw [bI h1,bI h9,bI h7]
 by_cases h5:n.Op=5
 ·rw [bQ (.inl h5)]
  have he:rG n.Op=iM:=by rw [h5];rfl
  rw [he]
  unfold iM
  rw [bA,HT (at1:=gQ (some ⟨some ⟨q,c,KS⟩,n,a,b⟩)) (fun e=>by
   rw [bQ h5]
   unfold gQ
   rw [bA]
   show(dM n.Items (dI e)).bind _=_
   unfold dM rL
   rw [Ic]
   cases cJ (dI e) n.Items 0<;>rfl)]
  cases lX a (gQ (some ⟨some ⟨q,c,KS⟩,n,a,b⟩))<;>rfl
 have hgroup:(n.Op=4∨n.Op=10∨n.Op=11)→pT n a=ep (some ⟨some ⟨q,c,KS⟩,n,a,b⟩):=fun ho=>by
  unfold ep
  rw [bA,HT (at1:=iN (some ⟨some ⟨q,c,KS⟩,n,a,b⟩)) (fun e=>by
   rw [bI h5]
   unfold iN
   rw [bA]
   show(gn n.Keys e).bind _=_
   unfold gn sM
   rw [JF]
   cases eH e n.Keys 0<;>rfl)]
  cases lX a (iN (some ⟨some ⟨q,c,KS⟩,n,a,b⟩))<;>rfl
 by_cases h4:n.Op=4
 ·rw [bQ (by omega),hgroup (by omega),h4];rfl
 by_cases h10:n.Op=10
 ·rw [bQ (by omega),hgroup (by omega),h10];rfl
 by_cases h11:n.Op=11
 ·rw [bQ (by omega),hgroup (by omega),h11];rfl
 rw [bI (by omega)]
 by_cases h3:n.Op=3
 ·rw [h3];rfl
 by_cases h6:n.Op=6
 ·rw [h6];rfl
 by_cases h8:n.Op=8
 ·rw [h8];rfl
 by_cases h2:n.Op=2
 ·rw [h2];rfl
 exfalso
 simp [kO,h1,h2,h3,h4,h5,h6,h7,h8,h9,h10,h11]at hp
theorem Ec{f:cL}{n:aw}{tl:List aw}{out:List aS}{a b x:aS}(hA:kO n.Op≠0→dC out n.A=some a)(hB:kO n.Op=2→dC out n.B=some b)(hp:0≤kO n.Op)(hx:KD q c n a b=some x):bv q c f (n::tl) out=(ko out [if f.At=2 then⟨4,[]⟩else x]).bind fun o=>bv q c f tl o:=by
 have hat: ∀(g:aS→Option (List aS)) (y:aS),(if(f.At==(2:Int))then g ⟨4,[]⟩else g y)=g (if f.At=2 then⟨4,[]⟩else y):=by
  intro g y
  by_cases h:f.At=2
  ·rw [bQ (by simp [h]),bQ h]
  ·rw [bI (by simpa using h),bI h]
 have fin: ∀y:aS,y=(if f.At=2 then⟨4,[]⟩else x)→ou (bv q c f tl) out y=(ko out [if f.At=2 then⟨4,[]⟩else x]).bind fun o=>bv q c f tl o:=fun y hy=>by
  rw [hy];rfl
 unfold KD at hx
 conv=>lhs;unfold bv
 by_cases h1:n.Op=1
 ·rw [bQ h1]at hx
  rw [bQ (by simp [h1])]
  cases ht:dC c.Tables n.Table with
  |none=>rw [ht]at hx;cases hx
  |some t=>
   rw [ht,bA]at hx
   injection hx with hx
   rw [bA]
   by_cases hk:0<t.Keys.length
   ·rw [bQ hk]at hx
    rw [bQ (by simpa using hk),hat (fun y=>ou (bv q c f tl) out y)]
    subst hx;exact fin _ rfl
   ·rw [bI hk]at hx
    rw [bI (by simpa using hk),hat (fun y=>qu (bv q c f tl) out y)]
    subst hx;exact fin _ rfl
 rw [bI h1]at hx
 rw [bI (by simpa using h1)]
 by_cases h9:n.Op=9
 ·rw [bQ h9]at hx
  rw [bQ (by simp [h9])]
  cases ht:dC q.Frags n.Table with
  |none=>rw [ht]at hx;cases hx
  |some g=>
   rw [ht,bA]at hx
   injection hx with hx
   rw [bA]
   by_cases hk:g.Way=1
   ·rw [bQ hk]at hx
    rw [bQ (by simp [hk]),hat (fun y=>qt (bv q c f tl) out y)]
    subst hx;exact fin _ rfl
   ·rw [bI hk]at hx
    rw [bI (by simpa using hk),hat (fun y=>qr (bv q c f tl) out y)]
    subst hx;exact fin _ rfl
 rw [bI h9]at hx
 rw [bI (by simpa using h9)]
 by_cases h7:n.Op=7
 ·rw [bQ h7]at hx
  injection hx with hx
  have hp2:kO n.Op=2:=by rw [h7];rfl
  rw [bQ (by simp [h7]),hA (by omega),hB hp2,bA,bA]
  have ht:(if((a.Kind==(2:Int))&&(b.Kind==(2:Int)))then((g9 a.Cols b.Cols).bind fun r=>some r)else some false)=some (decide ((a.Kind=2∧b.Kind=2)∧a.Cols=b.Cols)):=by
   rw [rY]
   by_cases h:a.Kind=2∧b.Kind=2
   ·rw [bQ (by simp [h]),bA]
    congr 1
    rw [By]
    exact⟨fun hc=>⟨h,hc⟩,fun hc=>hc.2⟩
   ·rw [bI (by simpa using h),qb (fun hc=>h hc.1)]
  rw [ht,bA]
  by_cases h:(a.Kind=2∧b.Kind=2)∧a.Cols=b.Cols
  ·rw [bQ h]at hx
   rw [bQ (by simpa using h),hat (fun y=>qq (bv q c f tl) out y)]
   subst hx;exact fin _ rfl
  ·rw [bI h]at hx
   rw [bI (by simpa using h),hat (fun y=>qp (bv q c f tl) out y)]
   subst hx;exact fin _ rfl
 rw [bI h7]at hx
 rw [bI (by simpa using h7)]
 have hp0:kO n.Op≠0:=by
  intro h0
  unfold kO at h0
  split at h0
  ·omega
  ·split at h0
   ·omega
   ·split at h0<;>omega
 have k7: ∀b7:Bool,b7=decide (n.Op=5∨n.Op=4∨n.Op=10∨n.Op=11)→lg f (bv q c f tl) n out b7=(ko out [if f.At=2 then⟨4,[]⟩else x]).bind fun o=>bv q c f tl o:=by
  intro b7 hb7
  unfold lg
  by_cases h:n.Op=5∨n.Op=4∨n.Op=10∨n.Op=11
  ·rw [bQ h]at hx
   rw [bQ (by rw [hb7];simpa using h),hA hp0,bA,hx,bA,hat (fun y=>qo (bv q c f tl) out y)]
   exact fin _ rfl
  ·rw [bI h]at hx
   injection hx with hx
   rw [bI (by rw [hb7];simpa using h),hA hp0,bA,hat (fun y=>qn (bv q c f tl) out y)]
   subst hx;exact fin _ rfl
 by_cases h5:n.Op=5
 ·rw [bQ (by simp [h5])];exact k7 (n.Op==5) (by simp [h5])
 rw [bI (by simpa using h5)]
 by_cases h4:n.Op=4
 ·rw [bQ (by simp [h4])];exact k7 (n.Op==4) (by simp [h4])
 rw [bI (by simpa using h4)]
 by_cases h10:n.Op=10
 ·rw [bQ (by simp [h10])];exact k7 (n.Op==10) (by simp [h10])
 rw [bI (by simpa using h10)]
 exact k7 (n.Op==11) (by rw [xu];simp [h5,h4,h10])
theorem xK(hs:qM c)(hP:yD c q KS){i:Nat}{f:cL}{K:List (List Int)}(hf:q.Frags[i]? =some f)(hF:w9 c f K)(hat:f.At=1∨f.At=2)(hcols: ∀g∈q.Frags,g.Cols.length≤1000): ∀(tl:List aw) (j:Nat) (out:List aS),f.Nodes.drop j=tl→j≤f.Nodes.length→out.length=j→(∀k,k<j→Nq f K out k)→
  bv q c f tl out=cQ (some ⟨q,c,KS⟩) f ((mJ).getD []) tl out
 |[],j,out,hd,hj,ho,hk=>rfl
 |n::tl,j,out,hd,hj,ho,hk=>by
  obtain⟨hidx,hjl,hd'⟩:=lE hd
  rw [cK]at hidx
  obtain⟨n',R,g1,g2,g3,g4,g5,_⟩:=hF.1.at_ j hjl
  rw [hidx]at g1
  cases g1
  have h60:=hF.2.2.1
  have hn:n∈f.Nodes:=qS hidx
  have hprt:0≤kO n.Op:=by rcases g4 with h|h|h<;>omega
  have hT:n.Op=1∨n.Op=9→0≤n.Table:=u4 hF.1 n hn
  have key: ∀a b:aS,(kO n.Op≠0→dC out n.A=some a)→(kO n.Op=2→dC out n.B=some b)→yH (kA K n.A).length a→(kO n.Op=2→yH (kA K n.B).length b)→bv q c f (n::tl) out=fW f ((mJ).getD []) (cQ (some ⟨q,c,KS⟩) f ((mJ).getD []) tl) n out ⟨some ⟨q,c,KS⟩,n,a,b⟩:=by
   intro a b hA hB ha hb
   obtain⟨y,e1,e2,e3⟩:=Kw hs hP hf hF hn g5 hprt ha hb
   rw [Ec hA hB hprt ((NY hs hcols hT hprt a b).trans e1)]
   unfold fW
   have next: ∀z:aS,yH R.length z→(f.At=2→z=⟨4,[]⟩)→(f.At=1→n.Op=1→z.Kind=1∨z.Kind=2)→((ko out [z]).bind fun o=>bv q c f tl o)=fV (cQ (some ⟨q,c,KS⟩) f ((mJ).getD []) tl) out z:=by
    intro z z1 z2 z3
    unfold fV
    rw [du (by simp;omega),bA,bA]
    refine xK hs hP hf hF hat hcols tl (j+1) (out++[z]) hd' (by omega) (by simp [ho]) (fun k hkj=>?_)
    by_cases hlt:k<j
    ·obtain⟨m,y',R',a1,a2,a3⟩:=hk k hlt
     exact⟨m,y',R',a1,by rw [vh (by omega)];exact a2,a3⟩
    ·have:k=j:=by omega
     subst this
     exact⟨n,z,R,hidx,by rw [uu (by omega),ho];simp,g2,z1,z2,z3⟩
   by_cases h1:f.At=1
   ·have e1' :((rW ((mJ).getD []) n.Op).getD (fun _=>none)) (some ⟨some ⟨q,c,KS⟩,n,a,b⟩)=some y:=e1
    rw [bI (by omega),bQ (by simp [h1]),e1',bA]
    exact next y e2 (fun h2=>by omega) (fun _=>e3)
   ·rw [bQ (by omega),bI (by simpa using h1)]
    exact next _ .one (fun _=>rfl) (fun h=>absurd h h1)
  have at_: ∀p:Int,0≤p→p<(j:Int)→ ∃y,dC out p=some y∧yH (kA K p).length y:=by
   intro p h0 hp
   obtain⟨m,y,R',a1,a2,a3,a4,_⟩:=hk p.toNat (by omega)
   refine⟨y,by rw [gR p.toNat (by omega),a2],?_⟩
   have:kA K p=R' :=by unfold kA;rw [bI (by omega),a3];rfl
   rw [this]
   exact a4
  have zero:yH 0 ⟨0,[]⟩:=⟨by simp,fun _ h=>(by cases h),by simp⟩
  conv=>rhs;unfold cQ
  rcases g4 with⟨hp,hA,hB⟩|⟨hp,hA0,hA,hB⟩|⟨hp,hA0,hA,hB0,hB⟩
  ·rw [bI (by simp;omega)]
   unfold eF
   rw [bI (by simp;omega)]
   exact key _ _ (fun h=>absurd hp h) (fun h=>by omega) (by rw [hA,wN];exact zero) (fun h=>by omega)
  ·obtain⟨y,hy,hyp⟩:=at_ n.A hA0 hA
   rw [bQ (by simpa using hA0),hy,bA]
   unfold eF
   rw [bI (by simp;omega)]
   exact key _ _ (fun _=>hy) (fun h=>by omega) hyp (fun h=>by omega)
  ·obtain⟨y,hy,hyp⟩:=at_ n.A hA0 hA
   obtain⟨z,hz,hzp⟩:=at_ n.B hB0 hB
   rw [bQ (by simpa using hA0),hy,bA]
   unfold eF
   rw [bQ (by simpa using hB0),hz,bA]
   exact key _ _ (fun _=>hy) (fun _=>hz) hyp (fun _=>hzp)
theorem Jr(hs:qM c)(hP:yD c q KS){i:Nat}{f:cL}(hf:q.Frags[i]? =some f):rM q c (i:Int)=ij (some ⟨q,c,KS⟩) (i:Int):=by
 obtain⟨K,hK,hF⟩:=hP.kok i f hf
 have hcols: ∀g∈q.Frags,g.Cols.length≤1000:=fun g hg=>by
  obtain⟨j,hj⟩:=AX hg
  obtain⟨K',_,hF'⟩:=hP.kok j g hj
  have:=hF'.2.2.2.2.choose_spec.2.clen
  omega
 unfold rM ij
 rw [bA,cK]
 show(q.Frags[i]?).bind _=(dC q.Frags (i:Int)).bind _
 rw [cK,hf,bA,bA]
 exact xK hs hP hf hF hF.2.2.2.2.choose_spec.2.at_ hcols f.Nodes 0 [] rfl (jz _) rfl (fun k hk=>by omega)
end
theorem zO(b:List aS): ∀(l:List aS) (i:Nat),b.drop i=l→ld b l i=some true
 |[],_,_=>rfl
 |x::l,i,hd=>by
  obtain⟨hidx,_,hd'⟩:=lE hd
  unfold ld
  rw [hidx,bA,bQ (by simp),rY,qQ rfl]
  exact zO b l (i+1) hd'
theorem DC(b:List aS):pu b b=some true:=by
 unfold pu
 rw [bI (by simp)]
 exact zO b b 0 rfl
theorem Hn{q:da}(hq:vP q):lv q=some true:=by
 unfold lv vA
 by_cases h0:q.Frags.length=0
 ·have hb:((q.Frags.length:Int)==(0:Int))=true:=by simp [h0]
  rw [bQ hb,bA,bQ hb]
  rfl
 ·have hb: ¬((q.Frags.length:Int)==(0:Int))=true:=by rw [uM];omega
  have hl:=hq.len
  have hlt:q.Frags.length-1<q.Frags.length:=by omega
  have hidx:dC q.Frags (IntKind.i64.wrap ((q.Frags.length:Int)-(1:Int)))=some (q.Frags[q.Frags.length-1]):=by
   rw [eS (by omega) (by omega),gR (q.Frags.length-1) (by omega),nP hlt]
  rw [bI hb,hidx,bA]
  obtain⟨out,w,e,hK,hcase⟩:=DM (hq.frag _ (yS hlt))
  rw [hK,bA]
  rcases hcase with⟨he,hw,hR,hkok,g1,g60,_⟩|⟨he,ho,a,hR⟩
  ·subst he
   obtain⟨R,r1,_⟩:=hkok.root g1 (by omega)
   rw [bI (by simp)]
   show((dC out (IntKind.i64.wrap ((out.length:Int)-(1:Int)))).bind _).bind _=_
   rw [r1,bA,bA,bI hb,bA,hR,bA,bI (show¬decide ((0:Int)≤ -1)=true by decide),bQ (by rfl)]
   show(((dC out (IntKind.i64.wrap ((out.length:Int)-(1:Int)))).bind _).bind _)=_
   rw [r1,bA,rY,qQ rfl]
   rfl
  ·subst he;subst ho
   rw [bQ (by rfl),bA,bI hb,bA,hR,bA,bQ (by simp)]
   rfl
theorem Hm{c:bG}{q:da}(hs:qM c)(hq:vP q){a b no:Int}{p:Option ci}{i1 a1:Int}(hb:na q c=some (p,i1,a1,no))(hcase:(no=0∧ ∃KS,p=some ⟨q,c,KS⟩∧yD c q KS)∨no≠0):
  ∀(ns:List Int) (i:Nat),gv c q (a,b,no) ns i=some true
 |[],i=>Hn hq
 |n::ns,i=>by
  have ih:=Hm hs hq (a:=a) (b:=b) hb hcase ns (i+1)
  unfold gv
  split
  ·exact Hn hq
  ·have hrd:((kP q n).bind fun r8=>(m9 q n).bind fun r9=>if(((r8.1 !=r9.1)||(r8.2.1 !=r9.2.1))||(r8.2.2 !=r9.2.2))then(some false)else((gv c q (a,b,no) ns) (i+1)))=some true:=by
    rw [Bs,AJ,bA,bA,bI (by simp)]
    exact ih
   rcases hcase with⟨h0,KS,hp,hP⟩|h0
   ·subst h0;subst hp
    have hl:=hq.len
    by_cases hout:((decide (n<(0:Int)))||(decide ((q.Frags.length:Int)≤n)))=true
    ·have:ml q c n=some ([],2):=by
      unfold ml
      rw [hb,bA,bI (by simp),bQ hout]
     rw [this,bA,bI (by simp),bQ hout,bI (by simp)]
     exact hrd
    ·have hn:0≤n∧n<(q.Frags.length:Int):=by simp at hout;omega
     have hlt:n.toNat<q.Frags.length:=by omega
     obtain⟨ps,K,_,_,h3,_⟩:=Oe hs hP (nP hlt)
     have hsame:=Jr hs hP (nP hlt)
     rw [Int.toNat_of_nonneg hn.1]at h3 hsame
     rw [h3]at hsame
     have:ml q c n=some (ps,0):=by
      unfold ml
      rw [hb,bA,bI (by simp),bI hout,h3]
      rfl
     rw [this,bA,bI (by simp),bI hout,bQ (by rfl),hsame,bA,DC,bA,bA,bI (by simp)]
     exact hrd
   ·have:ml q c n=some ([],no):=by
     unfold ml
     rw [hb,bA,bQ (by simpa using h0)]
    rw [this,bA,bQ (by simpa using h0),bI (by simp)]
    exact hrd
theorem CU(c:bG)(y:da)(numbers:List Int):sj c y numbers=some true:=by
 unfold sj
 rw [FM,bA,bI (by simp)]
 obtain⟨c',h1,hs,_⟩:=N5 c
 obtain⟨q,h2,hq⟩:=TY y
 rw [h1,bA,h2,bA]
 obtain⟨p,i,a,e,hb,hcase⟩:=Pu hs hq
 obtain⟨a2,b2,hC⟩:=Kj hs hq hb
 rw [hC,bA]
 refine Hm hs hq hb ?_ numbers 0
 rcases hcase with⟨he,_,_,KS,hp,hP⟩|⟨he,_⟩
 ·exact .inl ⟨he,KS,hp,hP⟩
 ·exact .inr he
end Go.Proofs.YtmogpgcfognefaaGreatDoor

