/- cJ of this claim: U3. -/
import Derived.Test.YtnmjbolollcokaaGreatDoorRbU2
set_option linter.all false
namespace Go.Proofs.YtnmjbolollcokaaGreatDoor
open Go

theorem BW{α:Type}(l:List α):l.filter (fun _=>true)=l:=List.filter_eq_self.2 fun _ _=>rfl
def n8(p:bW)(frag:Int):Prop:=1≤p.Frags.length∧p.Frags.length≤30∧0≤frag∧frag<(p.Frags.length:Int)
def qV(p:bW)(n:Int):Prop:=1≤p.Frags.length∧p.Frags.length≤30∧1≤n∧n≤8
instance(p:bW)(frag:Int):Decidable (n8 p frag):=by unfold n8;infer_instance
instance(p:bW)(n:Int):Decidable (qV p n):=by unfold qV;infer_instance
theorem qT{p:bW}{frag n:Int}(h:n8 p frag)(h2:1≤n∧n≤8):g9 p frag n=some 0:=by
 unfold n8 at h
 unfold g9
 rw [cM]
 simp only [yk,decide_eq_true_eq]
 omega
theorem Eb{p:bW}{frag n:Int}(h: ¬(n8 p frag∧1≤n∧n≤8)):g9 p frag n=some 2:=by
 unfold n8 at h
 unfold g9
 rw [cU]
 simp only [yk,decide_eq_true_eq]
 omega
theorem Ch{p:bW}{frag:Int}(h:n8 p frag):nu p frag=some (BI p frag,0):=by
 unfold nu
 rw [qT h (by omega),kU,cM (by simp),xw]
 rfl
theorem AS{p:bW}(hs:rY p){n:Nat}(h:qV p (n:Int)):hG p (n:Int)=some ((iX p n p.Frags 0).map Prod.fst,0):=by
 obtain⟨h1,h2,h3,h4⟩:=h
 unfold hG
 rw [qT (frag:=0) ⟨h1,h2,by omega,by omega⟩ (by omega),kU,cM (by simp),yD hs (by omega) (hb:=fun _=>true) (fun _=>rfl),BW]
 rfl
theorem AU{p:bW}{n:Int}(h: ¬qV p n):hG p n=some ([],2):=by
 unfold hG
 rw [Eb (fun⟨⟨a,b,_,_⟩,c,d⟩=>h ⟨a,b,c,d⟩),kU,cU (by simp)]
def Eu(frag node:Int)(x:aV×Int):Bool:=(x.2==frag)&&(x.1.To==node)
def lU(frag node:Int)(x:aV×Int):Bool:=(x.1.Frag==frag)&&(x.1.From==node)
theorem F0{p:bW}(hs:rY p){frag:Int}{n:Nat}(h:n8 p frag)(h2:1≤n∧n≤8)(node:Int):qI p frag (n:Int) node=some (((iX p n p.Frags 0).filter (Eu frag node)).map Prod.fst,0):=by
 unfold qI
 rw [qT h (by omega),kU,cM (by simp),yD hs (by omega) (hb:=Eu frag node) (fun _=>rfl)]
 rfl
theorem Ej{p:bW}(hs:rY p){frag:Int}{n:Nat}(h:n8 p frag)(h2:1≤n∧n≤8)(node:Int):o0 p frag (n:Int) node=some (((iX p n p.Frags 0).filter (lU frag node)).map Prod.fst,0):=by
 unfold o0
 rw [qT h (by omega),kU,cM (by simp),yD hs (by omega) (hb:=lU frag node) (fun _=>rfl)]
 rfl
theorem xI{f:cA}{n:Nat}{x:Int}(h:x∈mF f n):0≤x∧x≤(n:Int):=by
 unfold mF at h
 split at h
 ·rw [Df.1 h];omega
 ·rw [pK]at h
  obtain⟨i,hi,rfl⟩:=h
  rw [Fc]at hi
  omega
theorem tG{k r:Int}{aa bs:List Int}{x:aV×Int}:x∈rj k r aa bs↔x.1.Frag=k∧x.2=r∧x.1.From∈aa∧x.1.To∈bs:=by
 unfold rj
 rw [List.mem_flatMap]
 constructor
 ·rintro⟨a,ha,hx⟩
  rw [pK]at hx
  obtain⟨b,hb,rfl⟩:=hx
  exact⟨rfl,rfl,ha,hb⟩
 ·rintro⟨h1,h2,h3,h4⟩
  obtain⟨⟨k',a,b⟩,r'⟩:=x
  cases h1
  cases h2
  exact⟨a,h3,pK.2 ⟨b,h4,rfl⟩⟩
theorem ot{p:bW}{n:Nat}{x:aV×Int}: ∀{fs:List cA} {i:Nat},x∈iX p n fs i→0≤x.1.From∧x.1.From≤(n:Int)∧0≤x.1.To∧x.1.To≤(n:Int)∧x.2=BI p x.1.Frag∧0≤x.2∧(i:Int)≤x.1.Frag∧x.1.Frag<((i+fs.length:Nat):Int)
 |[],i,h=>by cases h
 |f::tl,i,h=>by
  unfold iX at h
  rcases vq.1 h with h|h
  ·unfold Dv at h
   split at h
   ·cases h
   ·rename_i h0
    rw [tG]at h
    obtain⟨h1,h2,h3,h4⟩:=h
    have:=xI h3
    have:=xI h4
    rw [h1]
    refine⟨by omega,by omega,by omega,by omega,h2,by omega,by omega,by simp;omega⟩
  ·obtain⟨g1,g2,g3,g4,g5,g6,g7,g8⟩:=ot h
   refine⟨g1,g2,g3,g4,g5,g6,by omega,?_⟩
   simp only [tf]
   omega
end Go.Proofs.YtnmjbolollcokaaGreatDoor

