import Derived.Test.YtdohlidddcgfjaaGreatFgY2
set_option linter.all false
namespace Go.Proofs.YtdohlidddcgfjaaGreat
open Go
structure KOK(ns:List al)(hx:List (List Int)):Prop where
 len:hx.length=ns.length
 at_: ∀j,j<ns.length->HO ns hx j
structure sr(ns:List al):Prop where
 len:ns.length<=90
 n: ∀n∈ns,kq n
def Bv: ∀(hx out:List (List Int)),(∀k∈hx,k.length<=100)->out.length+hx.length<=1000->ql hx out=some (out++hx,0,0)
 |[],out,_,_=>by unfold ql;rw [vW]
 |k::tl,out,hk,hl=>by
  unfold ql;rw [wx k (by have:=hk k (jO ..);omega),bz,bZ (by simp at hl ⊢;omega),bz,Bv tl _ (fun x K=>hk x (kX _ K)) (by simp at hl ⊢;omega)];simp
def su(l:aE){w:Int}(h:0<=w):od l w=some ([],w,291):=by
 unfold od;rw [bM (by simpa using h)]
def OX(ns:List al)(r:Option (List (List Int)×Int×Int)):Prop:= ∃out w e,r=some (out,w,e)/\((e=0/\w=0/\KOK ns out/\1<=ns.length/\ns.length<=60)\/(e=291/\out=[]))
def F1{ns:List al}(hs:sr ns)(H:1<=ns.length)(h60:ns.length<=60): ∀(tl:List al) (i:Nat) (l:aE),ns.drop i=tl->Mu ns l i->OX ns (gN ns ((nJ).getD []) tl i (-1) l)
 |[],i,l,hd,h=>by
  have hlen:ns.length<=i:=Ig hd;have hi:i=ns.length:=by
   rcases pj ns.length i with hlt|hge
   ·obtain⟨n,_,hn,_⟩:=h.ok ns.length hlt;rw [GT (kE _)]at hn;cases hn
   ·omega
  unfold gN lc;by_cases hc:((decide ((-1:Int)<(0:Int)))&&((l.m'.length:Int) !=(1:Int)))=true
  ·rw [bM hc,gg (by omega) (by omega),su l (by omega)];exact⟨_,_,_,rfl,.inr ⟨rfl,rfl⟩⟩
  ·rw [bB hc];unfold od;rw [bB (by decide),Bv l.g' [] (fun k hk=>by have:=h.g' k hk;omega) (by have:=h.len;simp;omega),pM];exact⟨_,_,_,rfl,.inl ⟨rfl,rfl,⟨by rw [h.len,hi],fun j hj=>h.ok j (by omega)⟩,H,h60⟩⟩
 |e::tl,i,l,hd,h=>by
  obtain⟨hidx,hi,hd'⟩:=jN hd;rw [eU]at hidx;unfold gN;obtain⟨ok,l',g1,g2,g3⟩:=M3 h (by omega) (by omega) hidx (hs.n e (t7 hidx));have g1' :eG l (i:Int) ((C5 ((nJ).getD []) e.Op).getD (fun _ _=>none))=some (ok,l'):=g1;rw [g1',bz]
  cases ok with
  |false=>
   rw [bM (by rfl)];unfold lc;rw [bB (by simp;omega),su l' (by omega)];exact⟨_,_,_,rfl,.inr ⟨rfl,rfl⟩⟩
  |true=>
   rw [bB (by simp)];exact F1 hs H h60 tl (i+1) l' hd' (g3 rfl)
def I9{ns:List al}(hs:sr ns):OX ns (iP ns):=by
 unfold iP;by_cases hc:((decide ((ns.length:Int)<(1:Int)))||(decide ((60:Int)<(ns.length:Int))))=true
 ·rw [bM hc];exact⟨_,_,_,rfl,.inr ⟨rfl,rfl⟩⟩
 ·rw [bB hc];simp at hc;exact F1 hs (by omega) (by omega) ns 0 _ rfl ⟨rfl,rfl,fun p hp=>(by cases hp),kE _,fun k hk=>(by cases hk),fun j hj=>by omega⟩
