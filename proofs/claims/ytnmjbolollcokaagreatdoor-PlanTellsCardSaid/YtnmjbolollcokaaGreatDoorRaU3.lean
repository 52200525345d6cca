/- cN of this claim: U3. -/
import Derived.Test.YtnmjbolollcokaaGreatDoorRaU2
set_option linter.all false
namespace Go.Proofs.YtnmjbolollcokaaGreatDoor
open Go

theorem sl{α:Type}(l:List α):l.filter (fun _=>true)=l:=List.filter_eq_self.2 fun _ _=>rfl
def fZ(p:bI)(frag:Int):Prop:=1≤p.Frags.length∧p.Frags.length≤30∧0≤frag∧frag<(p.Frags.length:Int)
def lR(p:bI)(n:Int):Prop:=1≤p.Frags.length∧p.Frags.length≤30∧1≤n∧n≤8
instance(p:bI)(frag:Int):Decidable (fZ p frag):=by unfold fZ;infer_instance
instance(p:bI)(n:Int):Decidable (lR p n):=by unfold lR;infer_instance
theorem Kn(p:bI)(frag:Int):((((decide ((1:Int)≤(p.Frags.length:Int)))&&(decide ((p.Frags.length:Int)≤(30:Int))))&&(decide ((0:Int)≤frag)))&&(decide (frag<(p.Frags.length:Int))))=decide (fZ p frag):=by
 by_cases h:fZ p frag
 ·rw [xi h]
  unfold fZ at h
  simp only [jz,zM]
  omega
 ·rw [yn h]
  unfold fZ at h
  simp only [Bool.and_eq_false_iff,F4]
  omega
theorem Ix(p:bI)(n:Int):((((decide ((1:Int)≤(p.Frags.length:Int)))&&(decide ((p.Frags.length:Int)≤(30:Int))))&&(decide ((1:Int)≤n)))&&(decide (n≤(8:Int))))=decide (lR p n):=by
 by_cases h:lR p n
 ·rw [xi h]
  unfold lR at h
  simp only [jz,zM]
  omega
 ·rw [yn h]
  unfold lR at h
  simp only [Bool.and_eq_false_iff,F4]
  omega
theorem oJ{p:bI}{frag n:Int}(h:fZ p frag)(h2:1≤n∧n≤8):gF p frag n=some 0:=by
 unfold fZ at h
 unfold gF
 rw [cQ]
 simp only [vB,zM]
 omega
theorem oK{p:bI}{frag n:Int}(h: ¬(fZ p frag∧1≤n∧n≤8)):gF p frag n=some 2:=by
 unfold fZ at h
 unfold gF
 rw [cO]
 simp only [vB,zM]
 omega
theorem Ci{p:bI}{frag:Int}(h:fZ p frag):jm p frag=some (Cz p frag,0):=by
 unfold jm
 rw [oJ h (by omega),n9,cQ (by simp),xB]
 rfl
theorem Cj{p:bI}{frag:Int}(h: ¬fZ p frag):jm p frag=some (0,2):=by
 unfold jm
 rw [oK (fun e=>h e.1),n9,cO (by simp)]
theorem Gx{p:bI}{frag:Int}(h:fZ p frag): ∃(k:Nat) (f:cz),frag=(k:Int)∧p.Frags[k]? =some f∧eh p.Frags frag=some f:=by
 obtain⟨_,_,h0,h1⟩:=h
 have hlt:frag.toNat<p.Frags.length:=by omega
 refine⟨frag.toNat,p.Frags[frag.toNat],by omega,oV hlt,?_⟩
 rw [IA frag.toNat (by omega),oV hlt]
theorem wK{p:bI}{frag:Int}{n:Nat}(h:fZ p frag)(h2:1≤n∧n≤8){f:cz}(hf:eh p.Frags frag=some f):ku p frag (n:Int)=some (kS f n,0):=by
 unfold ku
 rw [oJ h (by omega),n9,cQ (by simp),hf,n9,vN f h2.2]
 rfl
theorem wL{p:bI}{frag n:Int}(h: ¬(fZ p frag∧1≤n∧n≤8)):ku p frag n=some ([],2):=by
 unfold ku
 rw [oK h,n9,cO (by simp)]
theorem qT{p:bI}(hs:pM p){n:Nat}(h:lR p (n:Int)):im p (n:Int)=some ((o3 p n p.Frags 0).map Prod.fst,0):=by
 obtain⟨h1,h2,h3,h4⟩:=h
 unfold im
 rw [oJ (frag:=0) ⟨h1,h2,by omega,by omega⟩ (by omega),n9,cQ (by simp),yH hs (by omega) (hb:=fun _=>true) (fun _=>rfl),sl]
 rfl
theorem uY{p:bI}{n:Int}(h: ¬lR p n):im p n=some ([],2):=by
 unfold im
 rw [oK (fun⟨⟨a,b,_,_⟩,c,d⟩=>h ⟨a,b,c,d⟩),n9,cO (by simp)]
def JO(frag node:Int)(x:aN×Int):Bool:=(x.2==frag)&&(x.1.To==node)
def ua(frag node:Int)(x:aN×Int):Bool:=(x.1.Frag==frag)&&(x.1.From==node)
theorem A3{p:bI}(hs:pM p){frag:Int}{n:Nat}(h:fZ p frag)(h2:1≤n∧n≤8)(node:Int):mQ p frag (n:Int) node=some (((o3 p n p.Frags 0).filter (JO frag node)).map Prod.fst,0):=by
 unfold mQ
 rw [oJ h (by omega),n9,cQ (by simp),yH hs (by omega) (hb:=JO frag node) (fun _=>rfl)]
 rfl
theorem wO{p:bI}{frag n:Int}(h: ¬(fZ p frag∧1≤n∧n≤8))(node:Int):mQ p frag n node=some ([],2):=by
 unfold mQ
 rw [oK h,n9,cO (by simp)]
theorem yd{p:bI}(hs:pM p){frag:Int}{n:Nat}(h:fZ p frag)(h2:1≤n∧n≤8)(node:Int):ly p frag (n:Int) node=some (((o3 p n p.Frags 0).filter (ua frag node)).map Prod.fst,0):=by
 unfold ly
 rw [oJ h (by omega),n9,cQ (by simp),yH hs (by omega) (hb:=ua frag node) (fun _=>rfl)]
 rfl
theorem ur{p:bI}{frag n:Int}(h: ¬(fZ p frag∧1≤n∧n≤8))(node:Int):ly p frag n node=some ([],2):=by
 unfold ly
 rw [oK h,n9,cO (by simp)]
theorem sG(b:List aN): ∀(tl:List aN) (i:Nat),b.drop i=tl→eP b tl i=some true
 |[],i,_=>rfl
 |e::tl,i,hd=>by
  have hk:i<b.length:=by
   rcases jd i b.length with h|h
   ·exact h
   ·rw [Bg h]at hd;cases hd
  rw [yx hk]at hd
  injection hd with hn hd
  unfold eP
  rw [kZ,oV hk,n9,hn,cQ (by simp)]
  exact sG b tl (i+1) hd
theorem tP(b:List aN):eV b b=some true:=by
 unfold eV
 rw [cQ (by simp)]
 exact sG b b 0 (by simp)
theorem xK{f:cz}{n:Nat}{x:Int}(h:x∈kS f n):0≤x∧x≤(n:Int):=by
 unfold kS at h
 split at h
 ·rw [zP.1 h];omega
 ·rw [zG]at h
  obtain⟨i,hi,rfl⟩:=h
  rw [E5]at hi
  omega
theorem DO{k r:Int}{aa bs:List Int}{x:aN×Int}:x∈nM k r aa bs↔x.1.Frag=k∧x.2=r∧x.1.From∈aa∧x.1.To∈bs:=by
 unfold nM
 rw [List.mem_flatMap]
 constructor
 ·rintro⟨a,ha,hx⟩
  rw [zG]at hx
  obtain⟨b,hb,rfl⟩:=hx
  exact⟨rfl,rfl,ha,hb⟩
 ·rintro⟨h1,h2,h3,h4⟩
  obtain⟨⟨k',a,b⟩,r'⟩:=x
  cases h1
  cases h2
  exact⟨a,h3,zG.2 ⟨b,h4,rfl⟩⟩
theorem wh{p:bI}{n:Nat}{x:aN×Int}: ∀{fs:List cz} {i:Nat},x∈o3 p n fs i→0≤x.1.From∧x.1.From≤(n:Int)∧0≤x.1.To∧x.1.To≤(n:Int)∧x.2=Cz p x.1.Frag∧0≤x.2∧(i:Int)≤x.1.Frag∧x.1.Frag<((i+fs.length:Nat):Int)
 |[],i,h=>by cases h
 |f::tl,i,h=>by
  unfold o3 at h
  rcases zJ.1 h with h|h
  ·unfold EJ at h
   split at h
   ·cases h
   ·rename_i h0
    rw [DO]at h
    obtain⟨h1,h2,h3,h4⟩:=h
    have:=xK h3
    have:=xK h4
    rw [h1]
    refine⟨by omega,by omega,by omega,by omega,h2,by omega,by omega,by simp;omega⟩
  ·obtain⟨g1,g2,g3,g4,g5,g6,g7,g8⟩:=wh h
   refine⟨g1,g2,g3,g4,g5,g6,by omega,?_⟩
   simp only [tE]
   omega
theorem wb(p:bI)(w:uu):mq p w=some true:=by
 unfold mq
 rw [yD,n9,cQ (by simp)]
 obtain⟨b,h1,h2⟩:=Ao p
 rw [h1,n9]
 cases b with
 |true=>rfl
 |false=>
  have hs:=h2 rfl
  rw [cQ (by simp)]
  obtain⟨frag,nodes,node⟩:=w
  show((jm p frag).bind _)=_
  simp only [Kn,Ix]
  by_cases hF:fZ p frag
  ·obtain⟨k,f,hk,hf,hif⟩:=Gx hF
   rw [Ci hF,n9]
   by_cases hN:lR p nodes
   ·have hn0:=hN.2.2
    obtain⟨n,rfl⟩:=Int.eq_ofNat_of_zero_le (show 0≤nodes by omega)
    have hn:1≤n∧n≤8:=by omega
    have e1:Au ⟨-1,-1,-1⟩ (-1)=fun _=>true:=by
     funext x
     unfold Au
     rfl
    have s1:=q6 hs hn.2 ⟨-1,-1,-1⟩ (-1)
    rw [e1,sl]at s1
    have s2:=pc hif hn.2
    by_cases h0:node<0
    ·have z1:(o3 p n p.Frags 0).filter (JO frag node)=[]:=by
      rw [Cr]
      intro x hx hb
      have:=wh hx
      unfold JO at hb
      simp only [jz,beq_iff_eq]at hb
      omega
     have z2:(o3 p n p.Frags 0).filter (ua frag node)=[]:=by
      rw [Cr]
      intro x hx hb
      have:=wh hx
      unfold ua at hb
      simp only [jz,beq_iff_eq]at hb
      omega
     simp [wK hF hn hif,qT hs hN,A3 hs hF hn,yd hs hF hn,mJ hs,hF,hN,s1,s2,tP,mA,z1,z2,h0]
    ·have z1:Au ⟨-1,-1,node⟩ frag=JO frag node:=by
      funext x
      have hf0:=hF.2.2.1
      unfold Au JO
      show(((decide ((-1:Int)<0)||_)&&(decide (frag<0)||_))&&((decide ((-1:Int)<0)||_)&&(decide (node<0)||_)))=_
      rw [yn (show¬frag<0 by omega),yn h0,xi (show(-1:Int)<0 by omega)]
      simp
     have z2:Au ⟨frag,node,-1⟩ (-1)=ua frag node:=by
      funext x
      have hf0:=hF.2.2.1
      unfold Au ua
      show(((decide (frag<0)||_)&&(decide ((-1:Int)<0)||_))&&((decide (node<0)||_)&&(decide ((-1:Int)<0)||_)))=_
      rw [yn (show¬frag<0 by omega),yn h0,xi (show(-1:Int)<0 by omega)]
      simp
     have s3:=q6 hs hn.2 ⟨-1,-1,node⟩ frag
     have s4:=q6 hs hn.2 ⟨frag,node,-1⟩ (-1)
     rw [z1]at s3
     rw [z2]at s4
     simp [wK hF hn hif,qT hs hN,A3 hs hF hn,yd hs hF hn,mJ hs,hF,hN,s1,s2,s3,s4,tP,mA,h0]
   ·have hno: ¬(fZ p frag∧1≤nodes∧nodes≤8):=fun⟨⟨a,b,_,_⟩,c,d⟩=>hN ⟨a,b,c,d⟩
    simp [wL hno,uY hN,wO hno,ur hno,mJ hs,hF,hN]
  ·have hno: ¬(fZ p frag∧1≤nodes∧nodes≤8):=fun h=>hF h.1
   rw [Cj hF,n9,wL hno,n9]
   by_cases hN:lR p nodes
   ·have hn0:=hN.2.2
    obtain⟨n,rfl⟩:=Int.eq_ofNat_of_zero_le (show 0≤nodes by omega)
    have hn:1≤n∧n≤8:=by omega
    have e1:Au ⟨-1,-1,-1⟩ (-1)=fun _=>true:=by
     funext x
     unfold Au
     rfl
    have s1:=q6 hs hn.2 ⟨-1,-1,-1⟩ (-1)
    rw [e1,sl]at s1
    simp [qT hs hN,wO hno,ur hno,hF,hN,s1,tP]
   ·simp [uY hN,wO hno,ur hno,hF,hN]
end Go.Proofs.YtnmjbolollcokaaGreatDoor

