/- cT of this claim: G6. -/
import Derived.Test.YtdohlidddcgfjaaGreatFaG5
import Derived.KernelRfl
set_option linter.all false
namespace Go.Proofs.YtdohlidddcgfjaaGreat
open Go

theorem vJ: ∀l:List bC,jq l=some true∨(jq l=some false∧ ∀n∈l,n.Value.S.length≤100)
 |[]=> .inr ⟨rfl,fun n hn=>by cases hn⟩
 |x::l=>by
  unfold jq
  by_cases h:(decide ((100:Int)<(x.Value.S.length:Int)))=true
  ·rw [bq h];exact .inl rfl
  ·rw [aW h]
   refine(vJ l).imp id fun⟨h1,h2⟩=>⟨h1,fun n hn=>?_⟩
   rcases jW.1 hn with rfl|hn
   ·simp at h;omega
   ·exact h2 n hn
theorem xr(e:bv):ke e=some true∨(ke e=some false∧KA e):=by
 unfold ke
 by_cases h:(decide ((100:Int)<(e.Nodes.length:Int)))=true
 ·rw [bq h];exact .inl rfl
 ·rw [aW h]
  exact(vJ e.Nodes).imp id fun⟨h1,h2⟩=>⟨h1,by simp at h;omega,h2⟩
theorem uQ(nx:Option Bool): ∀l:List fy,gL nx l=some true∨(gL nx l=nx∧ ∀a∈l,KA a.Arg)
 |[]=> .inr ⟨rfl,fun n hn=>by cases hn⟩
 |x::l=>by
  unfold gL
  rcases xr x.Arg with h|⟨h,hs⟩
  ·rw [h,bj,bq rfl];exact .inl rfl
  ·rw [h,bj,aW (by simp)]
   refine(uQ nx l).imp id fun⟨h1,h2⟩=>⟨h1,fun n hn=>?_⟩
   rcases jW.1 hn with rfl|hn
   ·exact hs
   ·exact h2 n hn
theorem uR(nx:Option Bool)(e:ap): ∀l:List bv,iD nx e l=some true∨(iD nx e l=gL nx e.Aggs∧ ∀a∈l,KA a)
 |[]=> .inr ⟨rfl,fun n hn=>by cases hn⟩
 |x::l=>by
  unfold iD
  rcases xr x with h|⟨h,hs⟩
  ·rw [h,bj,bq rfl];exact .inl rfl
  ·rw [h,bj,aW (by simp)]
   refine(uR nx e l).imp id fun⟨h1,h2⟩=>⟨h1,fun n hn=>?_⟩
   rcases jW.1 hn with rfl|hn
   ·exact hs
   ·exact h2 n hn
theorem uS: ∀l:List ap,eI l=some true∨(eI l=some false∧ ∀n∈l,Id n)
  |[]=> .inr ⟨rfl,fun n hn=>by cases hn⟩
  | x :: l => by
    unfold eI
    by_cases hc:(!(((((decide ((20:Int)<(x.Kinds.length:Int)))||(decide ((20:Int)<(x.Keys.length:Int))))||(decide ((20:Int)<(x.Order.length:Int))))||(decide ((20:Int)<(x.Items.length:Int))))||(decide ((20:Int)<(x.Aggs.length:Int)))))=true
    · rw [bq hc]
      rcases xr x.Cond with h|⟨h,hs⟩
      · rw [h,bj,bj,bq rfl];exact .inl rfl
      · rw [h,bj,bj,aW (by simp)]
        rcases uR (eI l) x x.Items with h2|⟨h2,h3⟩
        · exact .inl h2
        · rw [h2]
          rcases uQ (eI l) x.Aggs with h4|⟨h4,h5⟩
          · exact .inl h4
          · rw [h4]
            refine(uS l).imp id fun⟨h6,h7⟩=>⟨h6,fun n hn=>?_⟩
            rcases jW.1 hn with rfl|hn
            · simp at hc
              exact⟨by omega,by omega,by omega,by omega,by omega,hs,h3,h5⟩
            · exact h7 n hn
    · rw [aW hc,bj,bq rfl];exact .inl rfl
theorem FT(l:List ap):mo l=some true∨(mo l=some false∧l.length≤70∧ ∀n∈l,Id n):=by
 unfold mo
 by_cases h:(decide ((70:Int)<(l.length:Int)))=true
 ·rw [bq h];exact .inl rfl
 ·rw [aW h]
  exact(uS l).imp id fun⟨h1,h2⟩=>⟨h1,by simp at h;omega,h2⟩
theorem vI: ∀l:List ez,jp l=some true∨(jp l=some false∧ ∀f∈l,MT f)
 |[]=> .inr ⟨rfl,fun n hn=>by cases hn⟩
 |x::l=>by
  unfold jp
  by_cases hc:(!(decide ((40:Int)<(x.Cols.length:Int))))=true
  ·rw [bq hc]
   rcases FT x.Nodes with h|⟨h,h1,h2⟩
   ·rw [h,bj,bj,bq rfl];exact .inl rfl
   ·rw [h,bj,bj,aW (by simp)]
    refine(vI l).imp id fun⟨h6,h7⟩=>⟨h6,fun n hn=>?_⟩
    rcases jW.1 hn with rfl|hn
    ·exact⟨by simp at hc;omega,h1,h2⟩
    ·exact h7 n hn
  ·rw [aW hc,bj,bq rfl];exact .inl rfl
theorem Hy(p:dn):nK p=some true∨(nK p=some false∧Kz p):=by
 unfold nK
 by_cases h:(decide ((40:Int)<(p.Frags.length:Int)))=true
 ·rw [bq h];exact .inl rfl
 ·rw [aW h]
  exact(vI p.Frags).imp id fun⟨h1,h2⟩=>⟨h1,by simp at h;omega,h2⟩
theorem vG(nx:Option Bool): ∀l:List aF,jo nx l=some true∨(jo nx l=nx∧ ∀v∈l,v.S.length≤100)
 |[]=> .inr ⟨rfl,fun n hn=>by cases hn⟩
 |x::l=>by
  unfold jo
  by_cases h:(decide ((100:Int)<(x.S.length:Int)))=true
  ·rw [bq h];exact .inl rfl
  ·rw [aW h]
   refine(vG nx l).imp id fun⟨h1,h2⟩=>⟨h1,fun n hn=>?_⟩
   rcases jW.1 hn with rfl|hn
   ·simp at h;omega
   ·exact h2 n hn
theorem vH: ∀l:List (List aF),gv l=some true∨(gv l=some false∧ ∀r∈l,r.length≤20∧ ∀v∈r,v.S.length≤100)
 |[]=> .inr ⟨rfl,fun n hn=>by cases hn⟩
 |x::l=>by
  unfold gv
  by_cases h:(decide ((20:Int)<(x.length:Int)))=true
  ·rw [bq h];exact .inl rfl
  ·rw [aW h]
   rcases vG (gv l) x with h2|⟨h2,h3⟩
   ·exact .inl h2
   ·rw [h2]
    refine(vH l).imp id fun⟨h1,h4⟩=>⟨h1,fun n hn=>?_⟩
    rcases jW.1 hn with rfl|hn
    ·exact⟨by simp at h;omega,h3⟩
    ·exact h4 n hn
theorem Hx(l:List (List aF)):nJ l=some true∨(nJ l=some false∧R6 l):=by
 unfold nJ
 by_cases h:(decide ((10:Int)<(l.length:Int)))=true
 ·rw [bq h];exact .inl rfl
 ·rw [aW h]
  exact(vH l).imp id fun⟨h1,h2⟩=>⟨h1,by simp at h;omega,h2⟩
structure PP(m:cu):Prop where
 p:Kz m.Plan
 r:R6 m.Packet.Batch.Rows
theorem Lw(m:cu):qj m=some true∨(qj m=some false∧PP m):=by
 unfold qj
 rcases Hy m.Plan with h|⟨h,h1⟩
 ·rw [h,bj,aW (by simp),bj];exact .inl rfl
 ·rw [h,bj,bq (by simp)]
  rcases Hx m.Packet.Batch.Rows with h2|⟨h2,h3⟩
  ·rw [h2,bj,bj];exact .inl rfl
  ·rw [h2,bj,bj];exact .inr ⟨rfl,h1,h3⟩
def yc(l:List (List aF)):Bool:=(decide ((0:Int)<(l.length:Int))&&decide ((l.length:Int)≤4))&&l.all rX
def zt(b:dH)(seq:Int):Bool:=
 if(decide (seq<1)||decide (1099511627776<seq))=true then false
 else if b.End then((b.Rows.length:Int)==0)&&(b.Count==IntKind.u64.wrap (seq-1))else(b.Count==0)&&yc b.Rows
def oQ(p:co):Bool:=(decide (1≤p.Session)&&decide (p.Session≤2147483647))&&
  (if p.Kind=1 then(p.Limit==0)&&zt p.Batch p.Seq
   else if p.Kind=2 then(((((((p.Batch.Rows.length:Int)==0)&&(!p.Batch.End))&&(p.Batch.Count==0))&&decide (1≤p.Seq))&&decide (p.Seq≤1099511627777))&&decide (IntKind.u64.wrap (p.Seq-1)≤p.Limit))&&decide (p.Limit≤1099511627776)
   else false)
theorem z6{f:List aF→Option Bool}{g:List aF→Bool}(hf: ∀v,f v=some (g v)): ∀(l:List (List aF)) (i:Nat),∃r:Int,dW f l i=some r∧decide (0≤r)=l.any g
 |[],i=>⟨-1,rfl,rfl⟩
 |x::l,i=>by
  unfold dW
  rw [hf,bj,List.any_cons]
  cases h:g x with
  |true=>rw [bq rfl];exact⟨_,rfl,by simp⟩
  |false=>rw [aW (by simp),vj];exact z6 hf l (i+1)
theorem B7{f:List aF→Option Bool}{g:List aF→Bool}(hf: ∀v,f v=some (g v))(l:List (List aF)):eY l f=some (l.any g):=by
 obtain⟨r,h1,h2⟩:=z6 hf l 0
 unfold eY gZ
 rw [h1,bj,h2]
theorem F9(l:List (List aF)):wz l=some (yc l):=by
 unfold wz yc
 rw [yK (B7 (g:=fun r=> !rX r) (fun v=>by
  unfold vO
  rw [DZ,bj]
  cases rX v<;>rfl) l),bj]
 congr 2
 rw [←List.all_eq_not_any_not]
theorem tI(l:List (List aF)): ∀tl:List (List aF),mG l tl=some ((decide ((1:Int)≤(l.length:Int))&&decide ((l.length:Int)≤4))&&tl.all rX)
 |[]=>by unfold mG;simp
 |r::tl=>by
  unfold mG
  rw [Bl,bj,tI l tl,vi]
  cases rX r<;>simp
theorem D6(l:List (List aF)):uj l=some (yc l):=by
 unfold uj yc
 rw [tI]
 congr 3
theorem Eh(b:dH)(seq:Int):uy b seq=some (zt b seq):=by
 unfold uy zt
 rw [fL (F9 _),bj]
 split
 ·rfl
 ·split<;>rfl
theorem Cr(b:dH)(seq:Int):sH b seq=some (zt b seq):=by
 unfold sH zt
 rw [fL (D6 _),bj]
 split
 ·rfl
 ·split<;>rfl
theorem Bh(p:co):ru p=some (oQ p):=by
 unfold ru s8 oQ
 rw [bj,fL (Cr _ _),bj]
 cases (decide (1≤p.Session)&&decide (p.Session≤2147483647))with
 |false=>rfl
 |true=>
  rw [aW (by simp),mZ]
  by_cases h1:p.Kind=1
  ·rw [bq (by simp [h1]),bq h1]
  ·rw [aW (by simpa using h1),aW h1]
   by_cases h2:p.Kind=2
   ·rw [bq (by simp [h2]),bq h2]
   ·rw [aW (by simpa using h2),aW h2]
theorem CD(b:dH):wy b ⟨[],false,0⟩=some ((((b.Rows.length:Int)==0)&&(!b.End))&&(b.Count==0)):=by
 unfold wy
 rw [fL (FD _ _),bj]
 congr 1
 rw [pX]
 simp
 grind
theorem LZ(b:Bool):(if(!b)=true then some (321:Int)else some 0)=some (if b then 0 else 321):=by cases b<;>rfl
theorem CN(p:co):ol p=some (if oQ p then 0 else 321):=by
 unfold ol ux oQ
 rw [bj,fL (Eh _ _),bj,fL (CD _),bj,LZ,LZ]
 by_cases h1:p.Kind=1
 ·rw [bq (by simp [h1]),bq h1,t7]
 ·rw [aW (by simpa using h1),aW h1]
  by_cases h2:p.Kind=2
  ·rw [bq (by simp [h2]),bq h2]
   congr 2
   rw [pX];simp;grind
  ·rw [aW (by simpa using h2),aW h2,Bool.and_false]
   rfl
abbrev zP:co:=⟨0,0,0,0,⟨[],false,0⟩⟩
def F6(n:Int):Bool:=decide (0≤n)&&decide (n≤8)
def L0(m:cu):Bool:=((F6 m.From&&F6 m.To)&&decide (1≤m.Epoch))&&decide (m.Epoch≤12)
def q9(m:cu):Bool:=L0 m&&
  (if m.Kind=1 then((decide (1≤m.Sites)&&decide (m.Sites≤8))&&zO m.Plan)&&decide (m.Frag=0∧m.Packet=zP∧m.Err=0)
   else if m.Kind=2∨m.Kind=6∨m.Kind=7 then decide (m.Frag=0∧m.Sites=0∧m.Plan=⟨[]⟩∧m.Packet=zP∧m.Err=0)
   else if m.Kind=3∨m.Kind=4 then(((decide (0≤m.Frag)&&decide (m.Frag<30))&&(m.Packet.Kind==(if m.Kind=3 then 1 else 2)))&&oQ m.Packet)&&decide (m.Sites=0∧m.Plan=⟨[]⟩∧m.Err=0)
   else if m.Kind=5 then((m.Err==140)||(m.Err==300))&&decide (m.Frag=0∧m.Sites=0∧m.Plan=⟨[]⟩∧m.Packet=zP)
   else false)
def Hd(m:cu):Bool:=
 if m.Kind=1 then decide (m.Frag=0∧m.Packet=zP∧m.Err=0)
 else if m.Kind=3∨m.Kind=4 then decide (m.Sites=0∧m.Plan=⟨[]⟩∧m.Err=0)
 else if m.Kind=5 then decide (m.Frag=0∧m.Sites=0∧m.Plan=⟨[]⟩∧m.Packet=zP)
 else decide (m.Frag=0∧m.Sites=0∧m.Plan=⟨[]⟩∧m.Packet=zP∧m.Err=0)
theorem CF(m:cu):sR m=some (Hd m):=by
 unfold sR pG Hd
 simp only [jO,bj,cu.mk.injEq]
 by_cases h1:m.Kind=1
 ·rw [bq (by simp [h1]),bq h1];congr 1;rw [xJ];simp
 rw [aW (by simpa using h1),aW h1]
 by_cases h3:m.Kind=3
 ·rw [bq (by simp [h3]),bq (by simp [h3]),bq (.inl h3)];congr 1;rw [xJ];simp
 rw [aW (by simpa using h3)]
 by_cases h4:m.Kind=4
 ·rw [bq (by simp [h4]),bq (.inr h4)];congr 1;rw [xJ];simp
 rw [aW (by simpa using h4),aW (show¬(m.Kind=3∨m.Kind=4) by omega)]
 by_cases h5:m.Kind=5
 ·rw [bq (by simp [h5]),bq h5];congr 1;rw [xJ];simp
 rw [aW (by simpa using h5),aW h5];congr 1;rw [xJ];simp
def EB(m:cu):Bool:=
 if m.Kind=1 then(decide (1≤m.Sites)&&decide (m.Sites≤8))&&zO m.Plan
 else if m.Kind=2∨m.Kind=6∨m.Kind=7 then true
 else if m.Kind=3∨m.Kind=4 then((decide (0≤m.Frag)&&decide (m.Frag<30))&&(m.Packet.Kind==(if m.Kind=3 then 1 else 2)))&&oQ m.Packet
 else if m.Kind=5 then(m.Err==140)||(m.Err==300)
 else false
theorem zW(m:cu)(k:Int):ib m k=some (((decide (0≤m.Frag)&&decide (m.Frag<30))&&(m.Packet.Kind==k))&&oQ m.Packet):=by
 unfold ib
 rw [CN]
 have: ∀b c:Bool,((if b=true then((some (if c=true then(0:Int)else 321)).bind fun r=>some (r==(0:Int)))else some false).bind fun t=>some t)=some (b&&c):=by decide
 exact this _ _
theorem BC(m:cu)(hs:PP m):rC m=some (EB m):=by
 unfold rC mq EB
 rw [fL (El m.Plan hs.p),bj,zW,zW,bj,bj]
 by_cases h1:m.Kind=1
 ·rw [bq (by simp [h1]),bq h1]
 rw [aW (by simpa using h1),aW h1]
 by_cases h2:m.Kind=2
 ·rw [bq (by simp [h2]),bq (by simp [h2]),bq (.inl h2)]
 rw [aW (by simpa using h2)]
 by_cases h6:m.Kind=6
 ·rw [bq (by simp [h6]),bq (by simp [h6]),bq (.inr (.inl h6))]
 rw [aW (by simpa using h6)]
 by_cases h7:m.Kind=7
 ·rw [bq (by simp [h7]),bq (.inr (.inr h7))]
 rw [aW (by simpa using h7),aW (show¬(m.Kind=2∨m.Kind=6∨m.Kind=7) by omega)]
 by_cases h3:m.Kind=3
 ·rw [bq (by simp [h3]),bq (show m.Kind=3∨m.Kind=4 from .inl h3),bq h3]
 rw [aW (by simpa using h3)]
 by_cases h4:m.Kind=4
 ·rw [bq (by simp [h4]),bq (show m.Kind=3∨m.Kind=4 from .inr h4),aW h3]
 rw [aW (by simpa using h4),aW (show¬(m.Kind=3∨m.Kind=4) by omega)]
 by_cases h5:m.Kind=5
 ·rw [bq (by simp [h5]),bq h5]
 ·rw [aW (by simpa using h5),aW h5]
theorem CH(m:cu)(hs:PP m):sS m=some (q9 m):=by
 unfold sS
 rw [show mR m.From=some (F6 m.From)from rfl,bj,fL (show mR m.To=some (F6 m.To)from rfl),bj,fL (CF m),bj,fL (BC m hs),bj]
 congr 1
 unfold q9 Hd EB L0
 rw [t7]
 congr 1
 repeat' split
 all_goals first|rfl|(exfalso;omega)|exact Bool.and_comm _ _|(simp;done)
theorem Ns(m:cu):((((((decide (m.From<(0:Int)))||(decide ((8:Int)<m.From)))||(decide (m.To<(0:Int))))||(decide ((8:Int)<m.To)))||(decide (m.Epoch<(1:Int))))||(decide ((12:Int)<m.Epoch)))= !(L0 m):=by
 unfold L0 F6
 rw [pX];simp;omega
theorem AP:Kz ⟨[]⟩:=⟨by simp,fun f hf=>by cases hf⟩
theorem s7(m:cu)(hs:PP m):sG m=some (q9 m):=by
 unfold sG
 rw [Ns]
 cases hh:L0 m with
 |false=>rw [bq (show(!false)=true from rfl)];unfold q9;rw [hh];rfl
 |true=>
  rw [aW (by simp)]
  unfold q9
  rw [hh,mZ]
  by_cases h1:m.Kind=1
  ·rw [bq (by simp [h1]),bq h1,se (D5 m.Plan hs.p),bj,kY _ _ (by exact hs.p),bj]
   have e1:((decide (m.Sites<(1:Int)))||(decide ((8:Int)<m.Sites)))= !((decide (1≤m.Sites)&&decide (m.Sites≤8))):=by rw [pX];simp<;>omega
   rw [e1]
   cases (decide (1≤m.Sites)&&decide (m.Sites≤8))<;>cases zO m.Plan<;>simp
   cases m;simp;grind
  rw [aW (by simpa using h1),aW h1]
  have hk1:m.Kind=2∨m.Kind=6∨m.Kind=7→j6 m true=some (decide (m.Frag=0∧m.Sites=0∧m.Plan=⟨[]⟩∧m.Packet=zP∧m.Err=0)):=fun _=>by
   unfold j6
   rw [bq rfl,kY _ _ (by exact AP),bj]
   congr 1;rw [xJ]
   cases m;simp;grind
  by_cases h2:m.Kind=2
  ·rw [bq (by simp [h2]),show(m.Kind==(2:Int))=true by simp [h2],hk1 (.inl h2),bq (.inl h2)]
  rw [aW (by simpa using h2)]
  by_cases h6:m.Kind=6
  ·rw [bq (by simp [h6]),show(m.Kind==(6:Int))=true by simp [h6],hk1 (.inr (.inl h6)),bq (.inr (.inl h6))]
  rw [aW (by simpa using h6)]
  by_cases h7:m.Kind=7
  ·rw [show(m.Kind==(7:Int))=true by simp [h7],hk1 (.inr (.inr h7)),bq (.inr (.inr h7))]
  rw [show(m.Kind==(7:Int))=false by simp [h7],aW (show¬(m.Kind=2∨m.Kind=6∨m.Kind=7) by omega)]
  unfold j6
  rw [aW (by simp)]
  have hk3: ∀k:Int,nr m k=some ((((decide (0≤m.Frag)&&decide (m.Frag<30))&&(m.Packet.Kind==k))&&oQ m.Packet)&&decide (m.Sites=0∧m.Plan=⟨[]⟩∧m.Err=0)):=fun k=>by
   unfold nr
   rw [se (Bh _),bj,kY _ _ (by exact AP),bj]
   have e1:(((decide (m.Frag<(0:Int)))||(decide ((29:Int)<m.Frag)))||(m.Packet.Kind !=k))= !((decide (0≤m.Frag)&&decide (m.Frag<30))&&(m.Packet.Kind==k)):=by rw [pX];simp;grind
   rw [e1]
   cases ((decide (0≤m.Frag)&&decide (m.Frag<30))&&(m.Packet.Kind==k))<;>cases oQ m.Packet<;>simp
   cases m;simp;grind
  unfold py
  by_cases h3:m.Kind=3
  ·rw [bq (by simp [h3]),bq (by simp [h3]),aW (by simp [h3]),hk3,bq (show m.Kind=3∨m.Kind=4 from .inl h3),bq h3]
  rw [aW (by simpa using h3)]
  by_cases h4:m.Kind=4
  ·rw [bq (by simp [h4]),bq (by simp [h4]),hk3,bq (show m.Kind=3∨m.Kind=4 from .inr h4),aW h3]
  rw [aW (by simpa using h4),aW (show¬(m.Kind=3∨m.Kind=4) by omega)]
  by_cases h5:m.Kind=5
  ·rw [bq (by simp [h5]),bq h5,kY _ _ (by exact AP),bj]
   have e1:((m.Err !=(140:Int))&&(m.Err !=(300:Int)))= !((m.Err==140)||(m.Err==300)):=by rw [pX];simp
   rw [e1]
   cases ((m.Err==140)||(m.Err==300))<;>simp
   cases m;simp;grind
  ·rw [aW (by simpa using h5),aW h5]
def QE(m:cu):List Int:=rR [m.Kind,m.From,m.To,m.Epoch]
def GE(p:co):List Int:=gb (IntKind.u64.wrap p.Session) 4++gb p.Seq 8++fB p.Batch.End::(if p.Batch.End then gb p.Batch.Count 8 else(Qz p.Batch.Rows).1)
def MK(p:co):List Int:=gb (IntKind.u64.wrap p.Session) 4++gb p.Seq 8++gb p.Limit 8
def KQ(m:cu):List Int:=QE m++(if m.Kind=1 then IntKind.u8.wrap m.Sites::R1 m.Plan else if m.Kind=3 then IntKind.u8.wrap m.Frag::GE m.Packet else if m.Kind=4 then IntKind.u8.wrap m.Frag::MK m.Packet else if m.Kind=5 then [fB (m.Err==300)]else [])
theorem Is(b:List Int)(p:co)(hs:R6 p.Batch.Rows)(h:b.length≤1000000000):ln (W0 b) p=some (W0 (b++if p.Kind=2 then MK p else GE p)):=by
 have hll:=Eg _ hs
 unfold ln
 show((lS b p.Session).bind _)=_
 rw [vM b _ (by omega),bj,lB _ _ (by simp [cQ];omega),bj]
 by_cases h2:p.Kind=2
 ·rw [bq (by simp [h2]),bq h2,lB _ _ (by simp [cQ];omega),bj]
  simp [MK]
 ·rw [aW (by simpa using h2),aW h2]
  show((gw (W0 _) p.Batch.End).bind _)=_
  rw [Iu _ _ (by simp [cQ];omega),bj]
  unfold GE
  cases he:p.Batch.End with
  |true=>
   rw [bq rfl,bq rfl]
   show((jd _ _).bind _)=_
   rw [lB _ _ (by simp [cQ];omega),bj]
   simp
  |false=>
   rw [aW (by simp),aW (by simp),ED _ hs,bj]
   show((gn _ (Qz p.Batch.Rows).1).bind _)=_
   rw [bH (by simp [cQ];omega),bj]
   simp
theorem Ld(m:cu)(hs:PP m)(hr:q9 m=true):kP (W0 []) m=some (W0 (KQ m)):=by
 have hpl:=Eb hs.p
 unfold q9 at hr
 rw [gX]at hr
 have hr:=hr.2
 unfold kP jr
 rw [lr [] _ (by simp),bj,lL]
 unfold KQ
 show(if(m.Kind==(1:Int))=true then _ else _)=_
 by_cases h1:m.Kind=1
 ·rw [bq h1]at hr
  simp only [gX]at hr
  rw [bq (by simp [h1]),bq h1,lr _ _ (by simp [rR]),bj,Sa _ _ hs.p (ND hs.p hr.1.2) (by simp [rR]),bj]
  simp [QE,rR]
 rw [aW (by simpa using h1),aW h1]
 rw [aW h1]at hr
 by_cases h3:m.Kind=3
 ·rw [aW (by omega),bq (.inl h3),bq h3]at hr
  simp only [gX,ss]at hr
  rw [bq (by simp [h3]),bq (by simp [h3]),bq h3,lr _ _ (by simp [rR]),bj,Is _ _ hs.r (by simp [rR]),bj,aW (by omega)]
  simp [QE,rR]
 rw [aW (by simpa using h3),aW h3]
 by_cases h4:m.Kind=4
 ·rw [aW (by omega),bq (.inr h4),aW h3]at hr
  simp only [gX,ss]at hr
  rw [bq (by simp [h4]),bq h4,lr _ _ (by simp [rR]),bj,Is _ _ hs.r (by simp [rR]),bj,bq (by omega)]
  simp [QE,rR]
 rw [aW (by simpa using h4),aW h4]
 by_cases h5:m.Kind=5
 ·rw [bq (by simp [h5]),bq h5,Iu _ _ (by simp [rR]),bj]
  rfl
 ·rw [aW (by simpa using h5),aW h5,t8]
  rfl
theorem Nx{p:Int}(h0:0≤p)(h:p<18446744073709551616):fh p 8=some (gb p 8):=by
 obtain⟨n,rfl⟩:=Int.eq_ofNat_of_zero_le h0
 exact oP n 8 (by omega) (by omega)
theorem SI(p:Int):fh (IntKind.u64.wrap p) 4=some (gb (IntKind.u64.wrap p) 4):=by
 obtain⟨n,hn,he⟩:=Ar p
 rw [he]
 exact oP n 4 hn (by omega)
theorem Pc(m:cu):xF (KQ m):=by
 unfold KQ
 refine ii (Ji _) ?_
 split
 ·exact gT (Pb _)
 ·split
  ·refine gT (ii (ii (iJ _ _) (iJ _ _)) (EG _ ?_))
   split
   ·exact iJ _ _
   ·exact Pd _
  ·split
   ·exact gT (ii (ii (iJ _ _) (iJ _ _)) (iJ _ _))
   ·split
    ·exact EG _ oW
    ·exact oW
theorem NB(m:cu)(hs:PP m):(KQ m).length≤1000000000:=by
 have hpl:=Eb hs.p
 have hll:=Eg _ hs.r
 unfold KQ
 rw [lM,QE,M7]
 split
 ·simp;omega
 ·split
  ·simp only [GE,nT,lM,cQ,ua]
   split
   ·simp [cQ]
   ·omega
  ·split
   ·simp [MK,cQ]
   ·split<;>simp
theorem UB{α:Type}(x:Option α):(x.bind fun r=>some r)=x:=by cases x<;>rfl
theorem JV(m:cu)(hs:PP m)(hr:q9 m=true):nt m=la (KQ m):=by
 have hpl:=Eb hs.p
 have hll:=Eg _ hs.r
 unfold q9 at hr
 rw [gX]at hr
 have hr:=hr.2
 unfold nt KQ
 simp only [UB]
 have hh:[IntKind.u8.wrap m.Kind,IntKind.u8.wrap m.From,IntKind.u8.wrap m.To,IntKind.u8.wrap m.Epoch]=QE m:=rfl
 have hhl:(QE m).length=4:=rfl
 rw [hh]
 by_cases h1:m.Kind=1
 ·rw [bq (by simp [h1]),bq h1,bH (by simp;omega),bj,Nk _ hs.p,bj,bH (by simp;omega),bj,nh]
  rfl
 rw [aW (by simpa using h1),aW h1]
 rw [aW h1]at hr
 have hpk:m.Kind=3∨m.Kind=4→oQ m.Packet=true∧m.Packet.Kind=(if m.Kind=3 then 1 else 2):=fun h=>by
  rw [aW (by omega),bq h]at hr
  simp only [gX,ss]at hr
  exact⟨hr.1.2,hr.1.1.2⟩
 have hdat:m.Kind=3→(0≤m.Packet.Seq∧m.Packet.Seq<18446744073709551616)∧(m.Packet.Batch.End=true→0≤m.Packet.Batch.Count∧m.Packet.Batch.Count<18446744073709551616):=fun h=>by
  obtain⟨h2,h3⟩:=hpk (.inl h)
  rw [bq h]at h3
  unfold oQ at h2
  rw [bq h3]at h2
  simp only [gX]at h2
  have h4:=h2.2.2
  unfold zt at h4
  split at h4
  ·cases h4
  ·rename_i hc
   simp at hc
   refine⟨by omega,fun he=>?_⟩
   rw [bq he]at h4
   simp at h4
   have:=h4.2
   rw [xO]at this
   omega
 have hack:m.Kind=4→(0≤m.Packet.Seq∧m.Packet.Seq<18446744073709551616)∧(0≤m.Packet.Limit∧m.Packet.Limit<18446744073709551616):=fun h=>by
  obtain⟨h2,h3⟩:=hpk (.inr h)
  rw [aW (by omega)]at h3
  unfold oQ at h2
  rw [aW (by omega),bq h3]at h2
  simp at h2
  have:=h2.2.1.2
  rw [xO]at this
  omega
 by_cases h3:m.Kind=3
 ·obtain⟨hq,hc⟩:=hdat h3
  rw [bq (by simp [h3]),bq h3,bH (by simp;omega),bj,SI,bj,bH (by simp [cQ];omega),bj,Nx hq.1 hq.2,bj,bH (by simp [cQ];omega),bj,Aw,bj,bH (by simp [cQ];omega),bj]
  unfold GE
  cases he:m.Packet.Batch.End with
  |true=>
   obtain⟨c1,c2⟩:=hc he
   rw [bq rfl,bq rfl,Nx c1 c2,bj,bH (by simp [cQ];omega),bj]
   simp
  |false=>
   rw [aW (by simp),aW (by simp),D7 _ hs.r,bj,bH (by simp [cQ];omega),bj]
   simp
 rw [aW (by simpa using h3),aW h3]
 by_cases h4:m.Kind=4
 ·obtain⟨hq,hc⟩:=hack h4
  rw [bq (by simp [h4]),bq h4,bH (by simp;omega),bj,SI,bj,bH (by simp [cQ];omega),bj,Nx hq.1 hq.2,bj,bH (by simp [cQ];omega),bj,Nx hc.1 hc.2,bj,bH (by simp [cQ];omega),bj]
  unfold MK
  simp
 rw [aW (by simpa using h4),aW h4]
 by_cases h5:m.Kind=5
 ·rw [bq (by simp [h5]),bq h5,Aw,bj,bH (by simp;omega),bj]
 ·rw [aW (by simpa using h5),aW h5,t8]
theorem Kr(m:cu)(hs:PP m):(q9 m=false∧ma m=some ([],330))∨(q9 m=true∧ ∃b,nt m=some b∧ma m=if(20000:Int)<(b.length:Int)then some ([],330)else some (b,0)):=by
 unfold ma
 rw [CH m hs,bj]
 cases hr:q9 m with
 |false=>exact .inl ⟨rfl,rfl⟩
 |true=>
  obtain⟨n,_,h1,h2⟩:=Hp (KQ m) (Pc m) (by have:=NB m hs;omega)
  refine .inr ⟨rfl,KQ m++x9 n 4,by rw [JV m hs hr,h2],?_⟩
  rw [aW (by simp),Ld m hs hr,bj]
  show((rU (KQ m)).bind _)=_
  rw [h1,bj]
  by_cases hl:(20000:Int)<((KQ m++x9 n 4).length:Int)
  ·rw [bq (by simpa using hl),bq hl]
  ·rw [aW (by simpa using hl),aW hl]
theorem M6:vP=some true:=by kernel_rfl
theorem zr(b:List Int):pm b b=some true:=by unfold pm;simp
theorem BD(m o:cu):rb m o=some true:=by
 unfold rb
 rw [M6,bj,aW (by simp)]
 rcases Lw m with hm|⟨hm,hs⟩
 ·rw [hm,bj,aW (by simp),bj,bq rfl]
 rcases Lw o with ho|⟨ho,hso⟩
 ·rw [hm,ho,bj,bq (by simp),bj,bj,bq rfl]
 rw [hm,ho,bj,bq (by simp),bj,bj,aW (by simp)]
 unfold vT
 have hS:((if(!((decide (m=o)) !=(decide (m=o))))=true then((ld m m).bind fun r7=>some (!r7))else some true).bind fun t1=>some t1)=some false:=by
  rw [jO];simp
 rcases Kr m hs with⟨hr,he⟩|⟨hr,b,hb,he⟩
 ·rw [he,bj,bj,bj,jO,kY _ _ hs.p,bj,bj,jO,bj,bq (by simp),bj,aW (by simp)]
  unfold qV
  rw [s7 m hs,hr]
  rfl
 ·by_cases hl:(20000:Int)<(b.length:Int)
  ·rw [bq hl]at he
   rw [he,bj,bj,bj,jO,kY _ _ hs.p,bj,bj,jO,bj,bq (by simp),bj,aW (by simp)]
   unfold qV
   rw [s7 m hs,hr,hb,bj,bq rfl,bj,bj,bj,bq (by simp;omega)]
   rfl
  ·rw [aW hl]at he
   rw [he,bj,bj,bj,jO,kY _ _ hs.p,bj,bj,jO,bj,bq (by simp),bj,aW (by simp)]
   unfold qV
   rw [s7 m hs,hr,hb,bj,bq rfl,bj,bj,bj,aW (by simp;omega),bq (by rfl),bj]
   show(((pm b b).bind _).bind _)=_
   rw [zr]
   rfl
end Go.Proofs.YtdohlidddcgfjaaGreat

