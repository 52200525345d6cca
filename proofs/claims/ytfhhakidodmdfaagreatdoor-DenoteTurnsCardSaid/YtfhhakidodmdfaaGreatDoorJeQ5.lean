/- cT of this claim: K9, J15, J16, J17. -/
import Derived.Test.YtfhhakidodmdfaaGreatDoorJeQ2
import Derived.Test.YtfhhakidodmdfaaGreatDoorJeQ4
set_option linter.all false
namespace Go.Proofs.YtfhhakidodmdfaaGreatDoor
open Go

theorem Px{β:Type}(m:List (Int×β))(k k' :Int)(v:β):kD (cY m k v) k' =if k=k' then some v else kD m k' :=by
 induction m with
 |nil=>simp only [cY,kD]
 |cons p m ih=>
  unfold cY
  by_cases h:p.1=k
  ·rw [aX h]
   simp only [kD]
   by_cases h2:k=k'
   ·simp [h2]
   ·rw [aM h2,aM h2,aM (by rw [h];exact h2)]
  ·rw [aM h]
   simp only [kD]
   rw [ih]
   by_cases h2:k=k'
   ·subst h2;simp [h]
   ·simp [h2]

def Rl(l:bE)(b o:cB):Prop:= ∀n∈l.Nodes,n.Op=1→(kS b n).Perm (kS o n)
variable{b:cB}{n:ak}{o:cB}
theorem MY(h:n.Op=1→(kS b n).Perm (kS o n))(ht:n.Op=1→(kS b n).length≤12)(x y:List cA)(w:Nat):uj n b x y w=uj n o x y w:=by
 unfold uj u7
 by_cases h1:n.Op=1
 ·rw [aX h1,aX h1]
  have hp:=h h1
  have hl:=ht h1
  have hf: ∀q:List cA,F8 n (q,0)=if 8000<q.length then([],3)else(wA q,0):=by
   intro q
   unfold F8
   simp [h1]
  have e1:(kS b n).length=(kS o n).length:=hp.length_eq
  have e2:wA (kS b n)=wA (kS o n):=Jv ik hp (by omega)
  rw [hf,hf,e1,e2]
 ·rw [aM h1,aM h1]
theorem GD{b o:cB}(ks:Nat→List Int): ∀(t:List ak) (rows:List (List cA)),(∀n∈t,n.Op=1→(kS b n).Perm (kS o n)∧(kS b n).length≤12)→xc b ks t rows=xc o ks t rows
 |[],rows,_=>rfl
 |n::t,rows,h=>by
  unfold xc
  have hn:=h n (kE ..)
  rw [MY (fun h1=>(hn h1).1) (fun h1=>(hn h1).2)]
  split
  ·rfl
  ·exact GD ks t _ fun m hm=>h m (ky _ hm)
theorem SB{α:Type}{p:α→Bool}{a b:List α}(h:a.Perm b):a.all p=b.all p:=by
 rw [zk,jx,jx]
 exact⟨fun q x hx=>q x (h.mem_iff.2 hx),fun q x hx=>q x (h.mem_iff.1 hx)⟩
theorem PI(hl:b.Tables.length=o.Tables.length)(h:n.Op=1→(kS b n).Perm (kS o n)):E1 b n=E1 o n:=by
 unfold E1 GX
 by_cases h1:n.Op=1
 ·have hp:=h h1
  rw [hl,hp.length_eq,SB hp]
 ·have:(n.Op==1)=false:=by simpa using h1
  rw [this];rfl
theorem MD{l:bE}(hl:b.Tables.length=o.Tables.length)(h:Rl l b o):AX l b=AX l o:=by
 unfold AX
 have: ∀t:List ak,(∀n∈t,n.Op=1→(kS b n).Perm (kS o n))→t.all (E1 b)=t.all (E1 o):=by
  intro t
  induction t with
  |nil=>intro _;rfl
  |cons n t ih=>
   intro ht
   rw [yB,yB,PI hl (ht n (kE ..)),ih fun m hm=>ht m (ky _ hm)]
 exact this _ h
theorem Ma{l:bE}{sz:Nat→Nat}{ks:Nat→List Int}(T:ze l b sz ks)(h:Rl l b o):sM l b ks=sM l o ks:=by
 unfold sM
 rw [GD ks l.Nodes [] ?_]
 intro n hn h1
 refine⟨h n hn h1,?_⟩
 obtain⟨j,hj,e⟩:=List.mem_iff_getElem.1 hn
 exact(T.scan j n (by rw [bW,ox hj,e]) h1).2.2
theorem Rg(s:List (Int×Bool))(k i:Int):(kD (cY s k true) i).getD false=(decide (k=i)||(kD s i).getD false):=by
 rw [Px]
 by_cases h:k=i
 ·rw [aX h,wH h];rfl
 ·rw [aM h,ww h];rfl
theorem Jn(l:bE)(b:cB)(n:Int)(r3:List cA×Int): ∀(ts:List Int) (s:List (Int×Bool)),∃s',jj l b n r3 ts s=co l n r3 s' b.Tables 0 ⟨[]⟩∧ ∀i,(kD s' i).getD false=(ts.any (fun t=>decide (t=i))||(kD s i).getD false)
 |[],s=>⟨s,rfl,fun i=>rfl⟩
 |t::ts,s=>by
  obtain⟨s',h1,h2⟩:=Jn l b n r3 ts (cY s t true)
  refine⟨s',by unfold jj;exact h1,fun i=>?_⟩
  rw [h2,Rg,wO]
  cases decide (t=i)<;>simp
def sJ(n:Int)(e:List cA)(on:Bool):List cA:=if on then(if e=[]then []else e.drop ((max n 0).tmod (e.length:Int)).toNat++e.take ((max n 0).tmod (e.length:Int)).toNat)else []
theorem wZ(n:Int)(e:List cA):(sJ n e true).Perm e:=by
 unfold sJ
 rw [aX rfl]
 split
 ·rename_i h;rw [h]
 ·exact List.perm_append_comm.trans (by rw [uG])
theorem Jm(l:bE)(n:Int)(r3:List cA×Int)(s:List (Int×Bool)): ∀(t:List (List cA)) (i:Nat) (o:cB),(∀e∈t,e.length≤30)→o.Tables.length+t.length≤1000→ ∃o' :cB,co l n r3 s t i o=co l n r3 s [] (i+t.length) o' ∧o'.Tables.length=o.Tables.length+t.length∧(∀j,j<o.Tables.length→o'.Tables[j]? =o.Tables[j]?)∧ ∀j,j<t.length→o'.Tables[o.Tables.length+j]? =some (sJ n ((t[j]?).getD []) ((kD s ((i+j:Nat):Int)).getD false))
 |[],i,o,_,_=>⟨o,rfl,rfl,fun j _=>rfl,fun j hj=>by simp at hj⟩
 |e::t,i,o,h,hl=>by
  rw [gX]at hl
  have he:=h e (kE ..)
  have ht:=fun x hx=>h x (ky e hx)
  have step:co l n r3 s (e::t) i o=co l n r3 s t (i+1) ⟨o.Tables++[sJ n e ((kD s (i:Int)).getD false)]⟩:=by
   conv=>lhs;unfold co
   unfold sJ
   cases hs:(kD s (i:Int)).getD false with
   |false=>
    simp only [Bs,eK,fZ,d9]
    rw [bY (by simp;omega),ba]
    rfl
   |true=>
    simp only [mi,fZ,d9,eK]
    by_cases hz:e=[]
    ·subst hz
     rw [aM (by decide),aX rfl]
     unfold jk
     show((dj ([]:List cA) 0 ((0:Nat):Int)).bind _)=_
     rw [iO (xs:=([]:List cA)) (i:=0) (j:=((0:Nat):Int)) 0 0 rfl rfl (dn _) (dn _)]
     simp only [ba]
     rw [bY (by simp),ba]
     rw [iO (xs:=([]:List cA)) (i:=0) (j:=0) 0 0 rfl rfl (dn _) (dn _),ba,bY (by simp),ba,bY (by simp;omega),ba]
     rfl
    ·have hpos:0<e.length:=List.length_pos_iff.2 hz
     rw [aX (by rw [kI];omega),aM hz]
     have hnz:nz (e.length:Int)=some ():=by unfold nz;rw [aM (by omega)]
     rw [hnz,ba]
     have hk0:0≤(max n 0).tmod (e.length:Int):=Int.tmod_nonneg _ (by omega)
     have hk1:(max n 0).tmod (e.length:Int)<(e.length:Int):=Int.tmod_lt_of_pos _ (by omega)
     generalize (max n 0).tmod (e.length:Int)=k at hk0 hk1
     unfold jk
     rw [iO (xs:=e) (i:=k) (j:=(e.length:Int)) k.toNat e.length (by omega) rfl (by omega) (dn _),ba,bY (by simp;omega),ba]
     rw [iO (xs:=e) (i:=0) (j:=k) 0 k.toNat rfl (by omega) (lw _) (by omega),ba,bY (by simp;omega),ba,bY (by simp;omega),ba]
     unfold la
     simp
  obtain⟨o',p1,p2,p3,p4⟩:=Jm l n r3 s t (i+1) ⟨o.Tables++[sJ n e ((kD s (i:Int)).getD false)]⟩ ht (by simp only [iF,wN];omega)
  simp only [iF,wN]at p2 p3 p4
  refine⟨o',by rw [step,p1,gX];congr 1;omega,by rw [gX];omega,?_,?_⟩
  ·intro j hj
   rw [p3 j (by omega),Af hj]
  ·intro j hj
   rw [gX]at hj
   cases j with
   |zero=>
    rw [wG,p3 o.Tables.length (by omega),tH (dn _)]
    simp
   |succ j=>
    have:=p4 j (by omega)
    rw [show o.Tables.length+(j+1)=o.Tables.length+1+j from by omega,this]
    simp only [I9,yS]
    rw [show i+1+j=i+(j+1)from by omega]
theorem LJ(l:bE)(b:cB)(n:Int)(hl:rgL l)(hb:HS b):nv l b n=some true:=by
 unfold nv
 rw [LE,ba,aM (by decide)]
 obtain⟨w,h1,h2⟩:=Kb b
 obtain⟨v,h3,h4⟩:=Tx l b
 rw [h1,ba,h3]
 cases w with
 |true=>rfl
 |false=>
  cases v with
  |true=>rfl
  |false=>
   have hsb:=h2 rfl
   obtain⟨hn,hsl⟩:=h4 rfl
   have hN: ∀n∈l.Nodes,zh n:=fun n hn=>(hsl n hn).g (hl n hn)
   have hS:mP l:=fun n hn=>(hN n hn).small
   simp only [Bs,eK,ba,fZ,d9]
   by_cases hr:lg l=true
   ·by_cases hf:AX l b=true
    ·obtain⟨sz,ks,T⟩:=Nv hN hb hr hf
     rw [qD T hf,ba]
     obtain⟨p1,p2,p3⟩:=Tl T
     have hne: ¬(((sM l b ks).2==(250:Int))||((sM l b ks).2==(230:Int)))=true:=by
      rcases p3 with q|q|q
      ·rw [q];decide
      ·rw [q];decide
      ·rw [q.1];decide
     rw [aM hne,HH hS hr,ba]
     obtain⟨s',g1,g2⟩:=Jn l b n (sM l b ks) (qe (sortI (Jt l.Nodes))) []
     obtain⟨o,q1,q2,_,q4⟩:=Jm l n (sM l b ks) s' b.Tables 0 ⟨[]⟩ (fun e he=>(hsb.2 e he).1) (by have:=hsb.1;simp only [oC];omega)
     rw [g1,q1]
     simp only [oC,uo]at q2 q4
     have htab: ∀m∈l.Nodes,m.Op=1→kS o m=sJ n (kS b m) true∧m.Table.toNat<b.Tables.length:=by
      intro m hm ho
      obtain⟨j,hj,e⟩:=List.mem_iff_getElem.1 hm
      have hidx:cR l.Nodes (j:Int)=some m:=by rw [bW,ox hj,e]
      obtain⟨t1,_,_⟩:=T.scan j m hidx ho
      have t0:=Ea T.known m hm ho
      have:=q4 m.Table.toNat t1
      have hin:(kD s' ((m.Table.toNat:Nat):Int)).getD false=true:=by
       rw [g2]
       have:m.Table∈qe (sortI (Jt l.Nodes)):=by
        rw [u8,GL]
        unfold Jt
        exact tK.2 ⟨m,DD.2 ⟨hm,by simpa using ho⟩,rfl⟩
       rw [sC.2 ⟨m.Table,this,by rw [kI];omega⟩]
       rfl
      rw [hin]at this
      refine⟨?_,t1⟩
      unfold kS
      rw [this]
      rfl
     have hlike:Rl l b o:=fun m hm ho=>by rw [(htab m hm ho).1];exact(wZ n _).symm
     have hfo:AX l o=true:=by rw [←MD q2.symm hlike];exact hf
     have To:ze l o sz ks:=⟨T.known,hr,hN,fun j m hj ho=>by
      have hm:m∈l.Nodes:=by rw [bW]at hj;exact qU hj
      obtain⟨s1,s2,s3⟩:=T.scan j m hj ho
      obtain⟨u1,u2⟩:=htab m hm ho
      rw [u1,q2]
      exact⟨s1,s2.perm (wZ n _).symm,by rw [(wZ n _).length_eq];exact s3⟩⟩
     unfold co
     rw [qD To hfo,←Ma T hlike,ba,aX (by simp),JG]
     simp
    ·rw [Bb hS hr (rn.2 hf)];rfl
   ·rw [Fa hS (rn.2 hr)];rfl

theorem zh.sh(h:zh n)(d:Int):zh (D4 d n):=⟨h.small.sh d,h.cond,h.items,h.args⟩

end Go.Proofs.YtfhhakidodmdfaaGreatDoor

