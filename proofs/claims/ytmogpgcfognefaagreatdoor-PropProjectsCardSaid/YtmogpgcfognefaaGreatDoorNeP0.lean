/- co of this claim: P0. -/
import Derived.Test.YtmogpgcfognefaaGreatDoorNeT
import Derived.Test.YtmogpgcfognefaaGreatDoorNeF
set_option linter.all false
namespace Go.Proofs.YtmogpgcfognefaaGreatDoor
open Go
abbrev lb:=(⟨(0:Int),(0:Int),(0:Int),[]⟩:M)
abbrev qC:=fun(x:M×M)=>[tD af x.1,tD af x.2]
abbrev qB:=fun(x:M×Int)=>tT [tD af x.1,bH x.2]
abbrev bQ:=rI .i64
abbrev nH:=(⟨[]⟩:bf)
abbrev Dj:=(⟨(0:Int),(0:Int),(0:Int),(0:Int),[],false,nH,[],[],[],[],(0:Int)⟩:aK)
abbrev mr:=fun(x:Bool)=>gK x
abbrev uq:=LV j8
abbrev Eu:=fun(x:(Option cK))=>[tD uq x]
abbrev mt:=(-1:Int)
abbrev Sq:=(⟨(1:Int),mt,mt,(0:Int),[(2:Int),(2:Int)],false,nH,[],[],[],[],(0:Int)⟩:aK)
abbrev So:=(⟨(6:Int),(0:Int),mt,(0:Int),[],false,nH,[],[],[],[],(0:Int)⟩:aK)
abbrev Xo:=(⟨[Sq,So],(1:Int),(3:Int),[]⟩:gJ)
abbrev LT:=(14,kz ([(2:Int),(2:Int),(2:Int),(2:Int)]))
abbrev Bj:=(⟨(0:Int),[]⟩:bE)
abbrev Sr:=(⟨(9:Int),mt,mt,(0:Int),[(2:Int),(2:Int)],false,nH,[],[],[],[],(0:Int)⟩:aK)
abbrev s0:=fun(x:bE)=>tD bU x
abbrev ue:=(⟨(0:Int),(0:Int),(0:Int),(0:Int),lb⟩:bc)
abbrev Ax:=fun(x:M×Int)=>tT [tD af x.1,tD bQ x.2]
abbrev xu:=fun(x:bu)=>[tD dO x]
abbrev oy:=LV fX
abbrev mu:=([]:List Int)
abbrev Aw:=fun(x:bw)=>[tD cB x]
abbrev we:=fun(x:im)=>tD rS x
abbrev Ex:=(⟨[],(0:Int),(0:Int),[]⟩:gJ)
abbrev Ew:=fun(x:M)=>[tD af x]
abbrev rp:=fz af
abbrev Av:=fun(x:Bool)=>tD rB x
abbrev Au:=fun(x:Int)=>[bH x]
abbrev Oc:=fun(x:bc×(List M))=>[tD aQ x.1,d7 (af) x.2]
abbrev Sh:=(⟨[97],(2:Int)⟩:bw)
abbrev Si:=(⟨[98],(2:Int)⟩:bw)
abbrev Sp:=(⟨[116],[Sh,Si],[(0:Int)]⟩:bu)
abbrev p5:=iS bQ 4
abbrev Oa:=fun(x:bc×(List M))=>[tD aQ x.1,tD rp x.2]
abbrev L8:=(⟨(1:Int),(0:Int),(0:Int),[]⟩:M)
abbrev ro:=rI .u32
abbrev N9:=fun(x:bc×(List Int))=>[tD aQ x.1,kz x.2]
abbrev Kp:=fun(x:aK)=>[tD aW x]
abbrev Ko:=tD oy (none:(Option cj))
abbrev wd:=fz bQ
abbrev Sn:=fun(x:bc×(List Int))=>[tD aQ x.1,tD wd x.2]
abbrev Kn:=(⟨(0:Int),nH⟩:jx)
abbrev sx:=Xy .i64
abbrev N8:=fun(x:Int×Int)=>tT [bH x.1,bH x.2]
abbrev CP:=iS aW 2
abbrev Ev:=([]:List M)
abbrev L7:=fun(x:lN)=>[tD l0 x]
abbrev Sm:=fun(x:jx×jx)=>[tD fY x.1,tD fY x.2]
abbrev CO:=iS ro 256
abbrev Km:=fun(x:Int)=>bH x
abbrev N7:=fun(x:bc)=>[tD aQ x]
abbrev Sl:=fun(x:Int×Int)=>tT [tD bQ x.1,tD bQ x.2]
abbrev N6:=fun(x:bf)=>[tD bn x]
abbrev Sk:=(⟨[Sr],(2:Int),(4:Int),[]⟩:gJ)
abbrev Sj:=fun(x:Int×Int)=>[bH x.1,bH x.2]
abbrev CN:=iS bQ 2
abbrev xr:=rI .u64
abbrev L6:=([]:List bc)
abbrev Sf:=(⟨[],(0:Int)⟩:bw)
abbrev Kl:=fz aQ
abbrev N5:=(⟨[]⟩:cn)
abbrev Sd:=(⟨(1:Int),[]⟩:bE)
abbrev Sc:=fun(x:Int)=>[tD bQ x]
abbrev N4:=tV (aw none 0 0)
abbrev N3:=(⟨[]⟩:hJ)
abbrev L0:=[mt,mt]
abbrev N2:=([]:List bf)
abbrev Sb:=([]:List (List Int))
set_option maxRecDepth 100000

theorem Py(s:(List Int))(f:(Int→Option Bool)){R:Int}(h:jW s f=some R):aN aM 205 [kz s,(dJ aM Au mr (fun(x:Int)=>f x))] (bH R):=by
 refine aN.of Tryz.func205 J J J fun w0 S0=>aq<|zo J (cQ)<|an<|ae<|aq<|aA J<|zo J (ja dm J)<|zo J (bl hI)<|an<|ax<|aV (k:=6) J fun hN=>bB ?_;refine aJ (d6 (Z:=fun ls i=>(s.drop i=ls)∧eS f ls i=some R) (Of:=fun _ i=>[]) (Gf:=fun _ i=>[(0,kz s),(1,(dJ aM Au mr (fun(x:Int)=>f x))),(7,hM s),(8,bH (i:Int))]) (fun i h=>?_) (fun e tl ih i h=>?_) s 0 ⟨J,h⟩) (aZ J)
 ·obtain⟨hx,h⟩:=h
  refine av<|aq<|zo J (eK J J)<|an<|ae<|bp (ht J) (cW hx)<|bg ?_;refine ac (ac (aF ?_));refine au<|aq<|zo rfl (cQ)<|an<|aj ?_;cases so h;exact aB J J
 ·obtain⟨hx,h⟩:=h
  refine av<|aq<|zo J (eK J J)<|an<|ae<|bo (ht J) (cU hx)<|dA<|ae<|ax<|aq<|aA J<|bk J<|an<|aq<|aA J<|aA J<|aA J<|zo J (iX dm bJ J J J (cP hx)) ?_;refine zo J (bz bJ J J)<|bF h fun r q_r h=>zo J (ej (args:=Sc) (res:=Av) (f:=(fun(x:Int)=>f x)) (x:=((e):Int)) (ht J) q_r ⟨(ht J),aU⟩)<|an<|cX h J (fun h=>?_) (fun h=>?_)
  ·refine aq<|aA J<|bk J<|an<|aj ?_;refine aC (aa (aa (aC (aa ?_))));cases so h;exact aB J J
  ·refine bA<|am<|au<|ai<|zo rfl (jU (cz hx hN) rfl)<|aA rfl<|aH ?_;exact aT (aJ (ih (i+1) ⟨cy hx,h⟩) (aZ J))

theorem vS(s:(List Int))(f:(Int→Option Bool)){R:Bool}(h:ci s f=some R):aN aM 136 [kz s,(dJ aM Au mr (fun(x:Int)=>f x))] (gK R):=by
 refine aN.of Tryz.func136 J J J fun w0 S0=>aq<|zo J (fJ)<|an<|aq<|aA J<|aA J<|bF h fun r q_r h=>zo J (aD VU (Py _ _ q_r) ⟨(ht J),(ht J),aU⟩)<|zo J (dQ (ht J) hI)<|bk J<|an<|aj ?_;cases so h;exact aB J J

theorem Qb(k:Int){R:Bool}(h:oF k=some R):aN aM 156 [bH k] (gK R):=by
 refine aN.of Tryz.func156 J J J fun w0 S0=>aq<|zo J (fJ)<|an<|aq<|aA J<|zo J (dI (ht J) hI)<|aA J<|cN J J (fun hg=>cL J)<|cN J J (fun hg=>gx (aS J hg) hI)<|zo J (pZ J J)<|bk J<|an<|aj ?_;cases so h;exact aB J J

theorem U6(b:Nat)(ix:OI)(l:al){R:Bool×al}(h:km l=some R):fq aM 83 [tV (aI b 0)] (dS b l ix) (fun _:OI=>gK R.1) (fun j=>dS b R.2 j):=by
 refine fq.of Tryz.func83 J J J fun w0 S0=>?_;refine(show CG _ _ _ [bx (rH be [(1,aw (ix.h 0).1 (ix.h 0).2 l.kinds.length),(2,aw (ix.h 1).1 (ix.h 1).2 l.open_.length)]) 124 b l,eF iv 29 (ix.h 0).1 (ix.h 0).2 l.kinds,cG bQ 3 (ix.h 1).1 (ix.h 1).2 l.open_] _ from ?_);refine aq<|zo J (fJ)<|an<|aq<|aA J<|aA J<|zo J (bj (ht J))<|zo J (fI 3 fW J J J)<|zo J (fI 7 rf J J J)<|zo J (br (r:=rH be [(1,aw (ix.h 0).1 (ix.h 0).2 l.kinds.length),(2,aw (ix.h 1).1 (ix.h 1).2 l.open_.length)]) (x:=l) ce J J (gk (fQ eH jp)) (.head _) (ht J))<|zo J (bj (ht J))<|zo J (fI 17 eW J J J)<|mJ (f6 ce J (uA (hs' :=[(1,aw (ix.h 0).1 (ix.h 0).2 l.kinds.length),(2,aw (ix.h 1).1 (ix.h 1).2 l.open_.length)]) qp ⟨.inr ⟨J,J⟩,.inr ⟨J,J⟩,aU⟩ J) J (ht J) (ht J)) fun i=>?_;refine(show RG _ _ _ _ [bx (rH be [(1,aw (ix.h 0).1 (ix.h 0).2 l.kinds.length),(2,aw (ix.h 1).1 (ix.h 1).2 l.open_.length)]) 124 b ({l with result:=l.n.Kinds}:al),eF iv 29 (ix.h 0).1 (ix.h 0).2 l.kinds,cG bQ 3 (ix.h 1).1 (ix.h 1).2 l.open_] _ from ?_);refine an<|aq<|aA J<|zo J (bj (ht J))<|zo J (fI 3 fW J J J)<|zo J (fI 7 rf J J J)<|zo J (br (r:=rH be [(1,aw (ix.h 0).1 (ix.h 0).2 l.kinds.length),(2,aw (ix.h 1).1 (ix.h 1).2 l.open_.length)]) (x:=({l with result:=l.n.Kinds}:al)) ce J J (gk (fQ eH jp)) (.head _) (ht J))<|bF h fun r q_r h=>zo J (aD Ec (vS _ _ q_r) ⟨(ht J),(sj Wo fun x y h=>Qb _ h),aU⟩)<|zo J (dH (ht J))<|bk J<|an<|aq<|aA J<|aA J<|bO J J (fun hg=>cL J)<|bO J J (fun hg=>bj (aS J hg))<|bO J J (fun hg=>bP (n:=3) fW J (aS J hg) J)<|bO J J (fun hg=>bP (n:=6) pL J (aS J hg) J)<|bO J J (fun hg=>br (r:=rH be [(1,aw (ix.h 0).1 (ix.h 0).2 l.kinds.length),(2,aw (ix.h 1).1 (ix.h 1).2 l.open_.length)]) (x:=({l with result:=l.n.Kinds}:al)) bJ J J (gk (fQ eH iF)) (.head _) (aS J hg)) ?_;refine bO J J (fun hg=>dQ (aS J hg) hI)<|zo J (la J J)<|aA J<|bO J J (fun hg=>cL J)<|bO J J (fun hg=>bj (aS J hg))<|bO J J (fun hg=>bP (n:=3) fW J (aS J hg) J)<|bO J J (fun hg=>bP (n:=6) pL J (aS J hg) J)<|bO J J (fun hg=>br (r:=rH be [(1,aw (ix.h 0).1 (ix.h 0).2 l.kinds.length),(2,aw (ix.h 1).1 (ix.h 1).2 l.open_.length)]) (x:=({l with result:=l.n.Kinds}:al)) bJ J J (gk (fQ eH iF)) (.head _) (aS J hg))<|bO J J (fun hg=>dI (aS J hg) hI)<|zo J (la J J)<|aA J<|bO J J (fun hg=>cL J)<|bO J J (fun hg=>bj (aS J hg))<|bO J J (fun hg=>bP (n:=3) fW J (aS J hg) J)<|bO J J (fun hg=>bP (n:=7) rf J (aS J hg) J)<|bO J J (fun hg=>br (r:=rH be [(1,aw (ix.h 0).1 (ix.h 0).2 l.kinds.length),(2,aw (ix.h 1).1 (ix.h 1).2 l.open_.length)]) (x:=({l with result:=l.n.Kinds}:al)) ce J J (gk (fQ eH jp)) (.head _) (aS J hg))<|bO J J (fun hg=>bN dm (aS J hg))<|bO J J (fun hg=>gx (aS J hg) hI)<|zo J (la J J)<|aA J<|bO J J (fun hg=>cL J)<|bO J J (fun hg=>bj (aS J hg))<|bO J J (fun hg=>bP (n:=3) fW J (aS J hg) J)<|bO J J (fun hg=>bP (n:=7) rf J (aS J hg) J) ?_;refine bO J J (fun hg=>br (r:=rH be [(1,aw (ix.h 0).1 (ix.h 0).2 l.kinds.length),(2,aw (ix.h 1).1 (ix.h 1).2 l.open_.length)]) (x:=({l with result:=l.n.Kinds}:al)) ce J J (gk (fQ eH jp)) (.head _) (aS J hg))<|bO J J (fun hg=>bN dm (aS J hg))<|bO J J (fun hg=>iT (aS J hg) hI)<|zo J (la J J)<|bk J<|an<|aj<|aR<|aR<|aR ?_;cases so h;exact dc J ix J J (fun _ _ h=>h)

theorem Qa(k:Int){R:Bool}(h:lR k=some R):aN aM 157 [bH k] (gK R):=by
 refine aN.of Tryz.func157 J J J fun w0 S0=>aq<|zo J (fJ)<|an<|aq<|aA J<|zo J (dI (ht J) hI)<|aA J<|cN J J (fun hg=>cL J)<|cN J J (fun hg=>gx (aS J hg) hI)<|zo J (pZ J J)<|bk J<|an<|aj ?_;cases so h;exact aB J J

theorem U5(b:Nat)(ix:OI)(l:al){R:Bool×al}(h:fU l=some R):fq aM 84 [tV (aI b 0)] (dS b l ix) (fun _:OI=>gK R.1) (fun j=>dS b R.2 j):=by
 refine fq.of Tryz.func84 J J J fun w0 S0=>?_;refine(show CG _ _ _ [bx (rH be [(1,aw (ix.h 0).1 (ix.h 0).2 l.kinds.length),(2,aw (ix.h 1).1 (ix.h 1).2 l.open_.length)]) 124 b l,eF iv 29 (ix.h 0).1 (ix.h 0).2 l.kinds,cG bQ 3 (ix.h 1).1 (ix.h 1).2 l.open_] _ from ?_);refine aq<|zo J (fJ)<|an<|aq<|aA J<|aA J<|zo J (bj (ht J))<|zo J (fI 3 fW J J J)<|zo J (fI 7 rf J J J)<|zo J (br (r:=rH be [(1,aw (ix.h 0).1 (ix.h 0).2 l.kinds.length),(2,aw (ix.h 1).1 (ix.h 1).2 l.open_.length)]) (x:=l) ce J J (gk (fQ eH jp)) (.head _) (ht J))<|zo J (bj (ht J))<|zo J (fI 17 eW J J J)<|mJ (f6 ce J (uA (hs' :=[(1,aw (ix.h 0).1 (ix.h 0).2 l.kinds.length),(2,aw (ix.h 1).1 (ix.h 1).2 l.open_.length)]) qp ⟨.inr ⟨J,J⟩,.inr ⟨J,J⟩,aU⟩ J) J (ht J) (ht J)) fun i=>?_;refine(show RG _ _ _ _ [bx (rH be [(1,aw (ix.h 0).1 (ix.h 0).2 l.kinds.length),(2,aw (ix.h 1).1 (ix.h 1).2 l.open_.length)]) 124 b ({l with result:=l.n.Kinds}:al),eF iv 29 (ix.h 0).1 (ix.h 0).2 l.kinds,cG bQ 3 (ix.h 1).1 (ix.h 1).2 l.open_] _ from ?_);refine an<|aq<|aA J<|zo J (bj (ht J))<|zo J (fI 3 fW J J J)<|zo J (fI 7 rf J J J)<|zo J (br (r:=rH be [(1,aw (ix.h 0).1 (ix.h 0).2 l.kinds.length),(2,aw (ix.h 1).1 (ix.h 1).2 l.open_.length)]) (x:=({l with result:=l.n.Kinds}:al)) ce J J (gk (fQ eH jp)) (.head _) (ht J))<|bF h fun r q_r h=>zo J (aD Ec (vS _ _ q_r) ⟨(ht J),(sj Wn fun x y h=>Qa _ h),aU⟩)<|zo J (dH (ht J))<|bk J<|an<|aq<|aA J<|aA J<|bO J J (fun hg=>cL J)<|bO J J (fun hg=>bj (aS J hg))<|bO J J (fun hg=>bP (n:=3) fW J (aS J hg) J)<|bO J J (fun hg=>bP (n:=6) pL J (aS J hg) J)<|bO J J (fun hg=>br (r:=rH be [(1,aw (ix.h 0).1 (ix.h 0).2 l.kinds.length),(2,aw (ix.h 1).1 (ix.h 1).2 l.open_.length)]) (x:=({l with result:=l.n.Kinds}:al)) bJ J J (gk (fQ eH iF)) (.head _) (aS J hg)) ?_;refine bO J J (fun hg=>dQ (aS J hg) hI)<|zo J (la J J)<|aA J<|bO J J (fun hg=>cL J)<|bO J J (fun hg=>bj (aS J hg))<|bO J J (fun hg=>bP (n:=3) fW J (aS J hg) J)<|bO J J (fun hg=>bP (n:=6) pL J (aS J hg) J)<|bO J J (fun hg=>br (r:=rH be [(1,aw (ix.h 0).1 (ix.h 0).2 l.kinds.length),(2,aw (ix.h 1).1 (ix.h 1).2 l.open_.length)]) (x:=({l with result:=l.n.Kinds}:al)) bJ J J (gk (fQ eH iF)) (.head _) (aS J hg))<|bO J J (fun hg=>dI (aS J hg) hI)<|zo J (la J J)<|aA J<|bO J J (fun hg=>cL J)<|bO J J (fun hg=>bj (aS J hg))<|bO J J (fun hg=>bP (n:=3) fW J (aS J hg) J)<|bO J J (fun hg=>bP (n:=7) rf J (aS J hg) J)<|bO J J (fun hg=>br (r:=rH be [(1,aw (ix.h 0).1 (ix.h 0).2 l.kinds.length),(2,aw (ix.h 1).1 (ix.h 1).2 l.open_.length)]) (x:=({l with result:=l.n.Kinds}:al)) ce J J (gk (fQ eH jp)) (.head _) (aS J hg))<|bO J J (fun hg=>bN dm (aS J hg))<|bO J J (fun hg=>gx (aS J hg) hI)<|zo J (la J J)<|aA J<|bO J J (fun hg=>cL J)<|bO J J (fun hg=>bj (aS J hg))<|bO J J (fun hg=>bP (n:=3) fW J (aS J hg) J)<|bO J J (fun hg=>bP (n:=7) rf J (aS J hg) J) ?_;refine bO J J (fun hg=>br (r:=rH be [(1,aw (ix.h 0).1 (ix.h 0).2 l.kinds.length),(2,aw (ix.h 1).1 (ix.h 1).2 l.open_.length)]) (x:=({l with result:=l.n.Kinds}:al)) ce J J (gk (fQ eH jp)) (.head _) (aS J hg))<|bO J J (fun hg=>bN dm (aS J hg))<|bO J J (fun hg=>iT (aS J hg) hI)<|zo J (la J J)<|bk J<|an<|aj<|aR<|aR<|aR ?_;cases so h;exact dc J ix J J (fun _ _ h=>h)

theorem Na(n:Int){R:(List Int)}(h:j7 n=some R):mM aM 215 [tV (.slice none 0 0),bH n] false bQ 3 R:=by
 refine mM.of Tryz.func215 J J J fun w0 S0=>aq<|cm false bQ 3<|zo J (bm vP)<|an ?_;refine El (Z:=kI n=some R) (Of:=[]) (Gf:=[(0,tV (.slice none 0 0)),(1,bH n)]) (fun h=>?_) (fun K=>?_)
 ·skip
  refine zD (Z:=fun s l c=>kH s=some R) (Of:=fun s l c=>[cG bQ 3 l c s]) (Gf:=fun s l c=>[(0,pQ l c s)]) (fun s l c h=>?_) (fun K1=>?_)
  ·skip
   refine aq<|aA J<|bk J<|an<|aj ?_;cases so h;exact m7 J J
  ·skip
   refine aq<|aA J<|aA J<|zo J (DG dm (ht J))<|aA J<|zo J (DF dm (ht J))<|zo J (fK (ht J) (ht J))<|zo J (fK (ht J) (ht J))<|bk J<|an<|aq<|aA J<|zo J (gx (ht J) hI)<|an<|cX h J (fun h=>?_) (fun h=>?_)
   ·refine ai<|aA J<|aA J<|zo J (DG dm (ht J))<|zo J (Gx dm bJ (ht J) (ht J))<|aA J<|bF h fun u q_u h=>bF h fun mk q_mk h=>vo (GX (r:=bQ) (x:=(0:Int)) bJ J J J J dm ou (fun _=>J) (ht J) (ht J) (MX q_u) q_mk) J fun i=>aA J<|zo J (DF dm (ht J))<|bF h fun y q_y h=>zo J (kD dm bJ J (.head _) (ht J) (ht J) q_y)<|zz q_y<|bk J<|aH ?_;exact bL (K1 y (i.h 0).1 (i.h 0).2 h) (aZ J)
   ·refine bA<|NU false bQ 3 ?_;exact bL (K1 mu none 0 h) (aZ J)
 ·skip
  refine aq<|aA J<|zo J (dI (ht J) hI)<|an<|cX h J (fun h=>?_) (fun h=>?_)
  ·refine ai ?_;exact(nn h).elim
  ·refine bA<|ba ?_;exact bL (K h) (aZ J)
theorem Nf(slices:(List (List Int))){R:(List Int)}(h:gN slices=some R):mM aM 158 [d7 (iv) slices] false bQ 3 R:=by
 refine mM.of Tryz.func158 J J J fun w0 S0=>aq<|cm false bQ 3<|zo J (bm vP)<|an<|aq<|zo J (cQ)<|an<|ae<|aq<|aA J<|zo J (ja uh J)<|zo J (bl hI)<|an<|ax<|aV (k:=9) J fun hN=>bB<|mK ?_;refine aJ (ln (Z:=fun ls i size=>(slices.drop i=ls)∧ic slices ls size=some R) (Of:=fun _ i size=>[]) (Gf:=fun _ i size=>[(0,d7 (iv) slices),(3,bH size),(9,d7 (iv) slices),(10,hM slices),(11,bH (i:Int))]) (fun i size h=>?_) (fun e tl ih i size h=>?_) slices 0 (0:Int) ⟨J,h⟩) (aZ J)
 ·obtain⟨hx,h⟩:=h
  refine av<|aq<|zo J (eK J J)<|an<|ae<|bp (ht J) (cW hx)<|bg ?_;refine ac (ac (aF ?_));refine au<|aq<|aA rfl<|bF h fun r q_r h=>ll VM (Na _ q_r) ⟨hV,(ht J),aU⟩ J fun l c=>bk J<|an<|ae<|aq<|aA J<|zo J (ja uh J)<|zo J (bl hI)<|an<|ax<|aV (k:=25) J fun hN1=>bB ?_;refine aJ (mp (Z:=fun ls1 i1 newslice l1 c1=>(slices.drop i1=ls1)∧ib ls1 newslice=some R) (Of:=fun _ i1 newslice l1 c1=>[cG bQ 3 l1 c1 newslice]) (Gf:=fun _ i1 newslice l1 c1=>[(6,pQ l1 c1 newslice),(25,d7 (iv) slices),(26,hM slices),(27,bH (i1:Int))]) (fun i1 newslice l1 c1 h=>?_) (fun e1 tl1 ih1 i1 newslice l1 c1 h=>?_) slices 0 r l c ⟨J,h⟩) (aZ J)
  ·obtain⟨hx1,h⟩:=h
   refine av<|aq<|zo J (eK J J)<|an<|ae<|bp (ht J) (cW hx1)<|bg ?_;refine ac (ac (aF ?_));refine au<|aq<|aA rfl<|bk rfl<|an<|aj ?_;cases so h;exact m7 J J
  ·obtain⟨hx1,h⟩:=h
   refine av<|aq<|zo J (eK J J)<|an<|ae<|bo (ht J) (cU hx1)<|dA<|ae<|ax<|aq<|zo J (iX uh ce J J J (cP hx1))<|zo J (bz ce J J)<|bk J<|an<|ai<|aA J<|aA J<|bF h fun newslice1 q_newslice1 h=>ep bJ J J J J dm J J (ht J) (ht J) q_newslice1 fun l2 c2=>?_;refine bk J<|aH<|am<|au<|ai<|zo rfl (jU (cz hx1 hN1) rfl)<|aA rfl<|aH ?_;exact aT (aJ (ih1 (i1+1) newslice1 l2 c2 ⟨cy hx1,h⟩) (aZ J))
 ·obtain⟨hx,h⟩:=h
  refine av<|aq<|zo J (eK J J)<|an<|ae<|bo (ht J) (cU hx)<|dA<|ae<|ax<|aq<|zo J (iX uh ce J J J (cP hx))<|zo J (bz ce J J)<|bk J<|an<|aq<|aA J<|aA J<|zo J (ja dm J) ?_;refine zo J (jZ (ht J) (ht J))<|bk J<|an<|aq<|aA J<|zo J (dI (ht J) hI)<|an<|cX h J (fun h=>?_) (fun h=>?_)
  ·refine ai ?_;exact(nn h).elim
  ·refine bA<|am<|au<|ai<|zo rfl (jU (cz hx hN) rfl)<|aA rfl<|aH ?_;exact aT (aJ (ih (i+1) (IntKind.i64.wrap (size+(e.length:Int))) ⟨cy hx,h⟩) (aZ J))
theorem PZ(slices:(List (List Int))){R:(List Int)}(h:gN slices=some R):aN aM 158 [d7 (iv) slices] (kz R):=(Nf _ h).spec

theorem A7(tag:Int){R:Int}(h:nj tag=some R):aN aM 135 [bH tag] (bH R):=by
 refine aN.of Tryz.func135 J J J fun w0 S0=>aq<|zo J (cQ)<|an<|ae<|ax<|aq<|aA J<|zo J (jy J)<|aA J<|cN J J (fun hg=>cL J)<|cN J J (fun hg=>bK (aS J hg) hI)<|zo J (pZ J J)<|bk J<|an<|cX h J (fun h=>?_) (fun h=>?_)
 ·refine aq<|zo J (cQ)<|an<|aj ?_;refine aC (aa ?_);cases so h;exact aB J J
 ·refine aq<|aA J<|zo J (dQ (ht J) hI)<|aA J<|bO J J (fun hg=>cL J)<|bO J J (fun hg=>iT (aS J hg) hI)<|zo J (la J J)<|bk J<|an<|cX h J (fun h=>?_) (fun h=>?_)
  ·refine aq<|zo J (cQ)<|an<|aj ?_;refine aC (aa ?_);cases so h;exact aB J J
  ·refine aq<|aA J<|zo J (dQ (ht J) hI)<|aA J<|bO J J (fun hg=>cL J)<|bO J J (fun hg=>iT (aS J hg) hI)<|zo J (la J J)<|bk J<|an<|cX h J (fun h=>?_) (fun h=>?_)
   ·refine aq<|zo J (cQ)<|an<|aj ?_;refine aC (aa ?_);cases so h;exact aB J J
   ·refine bA<|am<|au<|aq<|zo rfl (cQ)<|an<|aj ?_;cases so h;exact aB J J

theorem PN(v:M){R:M}(h:ut v=some R):aN aM 184 [tD af v] (tD af R):=by
 refine aN.of Tryz.func184 J J J fun w0 S0=>aq<|yz (ht J) J fun b=>aO (r:=af) (x:=lb) bt (fun _=>ca _) J fun b1=>an<|ae<|aq<|zo J (fI 0 jC J J J)<|zo J (br bJ J J ee (.tail _ (.head _)) (ht J))<|an ?_;refine Eo (Z:=fun v1=>ji v1=some R) (Of:=fun v1=>[bx af 82 b v1,bx af 82 b1 lb]) (Gf:=fun v1=>[(1,tV (aI b 0)),(2,tV (aI b1 0))]) (fun v1 h=>?_) (fun K=>?_)
 ·skip
  refine au<|aq<|zo rfl (br bt rfl rfl cF (.head _) (ht rfl))<|bD<|ay bt rfl ap rfl (ht rfl) (ht rfl)<|aL 2 rfl<|an<|aj<|ba ?_;cases so h;exact eE J bt J J J
 ·skip
  refine ae<|ax<|ae<|ax<|ae ?_;refine Eo (Z:=fun v2=>nM v2=some R) (Of:=fun v2=>[bx af 82 b v2,bx af 82 b1 lb]) (Gf:=fun v2=>[(1,tV (aI b 0)),(2,tV (aI b1 0))]) (fun v2 h=>?_) (fun K1=>?_)
  ·skip
   refine au<|aq<|zo rfl (fI 0 jC rfl rfl rfl)<|ay bJ rfl oD rfl (ht rfl) hI<|an<|bg ?_;refine bM J (ac (bM J (ac (aF ?_))));exact bL (K (M.mk (0:Int) v2.N v2.U v2.S) h) (aZ J)
  ·skip
   refine ae ?_;refine zF (Z:=nL v=some R) (Of:=[bx af 82 b v,bx af 82 b1 lb]) (Gf:=[(1,tV (aI b 0)),(2,tV (aI b1 0))]) (fun h=>?_) (fun K2=>?_)
   ·skip
    refine au<|ai<|zo rfl (fI 1 re rfl rfl rfl)<|ay Ky rfl qL rfl (ht rfl) hI<|aH<|am ?_;exact bL (K1 (M.mk v.Kind (0:Int) v.U v.S) h) (aZ J)
   ·skip
    refine ae<|ax<|ae<|ae<|aq<|zo J (jy J)<|bk J<|an<|cX h J (fun h=>?_) (fun h=>?_)
    ·refine bg ?_;refine ac (ac (aF ?_));refine au<|aq<|zo rfl (fI 1 re rfl rfl rfl)<|zo rfl (br Ky rfl rfl kP (.tail _ (.head _)) (ht rfl))<|zo rfl (rn rfl)<|aA rfl<|bO rfl rfl (fun hg=>fI 1 re J J J)<|bO J J (fun hg=>br Ky J J kP (.tail _ (.head _)) (aS J hg))<|bO J J (fun hg=>dg (aS J hg) hI)<|zo J (la J J)<|an<|cX h J (fun h=>?_) (fun h=>?_)
     ·refine bg ?_;refine bM J (ac (bM J (ac (bM J (ac (bM J (ac (aF ?_))))))));refine aX ?_;exact bL (K v h) (aZ J)
     ·refine bA<|am<|aX ?_;exact bL (K2 h) (aZ J)
    ·refine dA<|ae<|aq<|zo J (jy J)<|bk J<|an<|cX h J (fun h=>?_) (fun h=>?_)
     ·refine bg ?_;refine ac (ac (bM J (ac (aF ?_))));refine aX ?_;exact bL (K2 h) (aZ J)
     ·refine dA<|ae<|aq<|zo J (jy J)<|bk J<|an<|cX h J (fun h=>?_) (fun h=>?_)
      ·refine bg ?_;refine ac (ac (bM J (ac (bM J (ac (aF ?_))))));refine aX ?_;exact bL (K1 v h) (aZ J)
      ·refine dA<|ae<|aq<|zo J (jy J)<|bk J<|an<|cX h J (fun h=>?_) (fun h=>?_)
       ·refine bg ?_;refine ac (ac (bM J (ac (bM J (ac (bM J (ac (aF ?_))))))));refine au ?_;refine fD (Z:=fun v3=>nK v3=some R) (Of:=fun v3=>[bx af 82 b v3,bx af 82 b1 lb]) (Gf:=fun v3=>[(1,tV (aI b 0)),(2,tV (aI b1 0))]) (fun v3 h=>?_) (fun K3=>?_)
        ·skip
         refine bg ?_;refine bM J (ac (aF ?_));exact bL (K v3 h) (aZ J)
        ·skip
         refine aq<|zo J (fI 3 zh J J J)<|zo J (br ED J J oO (.tail _ (.head _)) (ht J))<|zo J (E1 kc (ht J))<|zo J (iT (ht J) hI)<|an<|cX h J (fun h=>?_) (fun h=>?_)
         ·refine ai<|zo J (fI 0 jC J J J)<|bD<|ay bJ J oD J (ht J) hI<|zo J (fI 3 zh J J J)<|ay ED J HH J (ht J) hS<|aH ?_;exact bL (K3 (M.mk (0:Int) v.N v.U ([])) h) (aZ J)
         ·refine bA<|aX ?_;exact bL (K3 v h) (aZ J)
       ·refine dA<|aq<|zo J (jy J)<|bk J<|an<|cX h J (fun h=>?_) (fun h=>?_)
        ·refine bg ?_;refine ac (bM J (ac (bM J (ac (bM J (ac (bM J (ac (aF ?_)))))))));refine au<|aq<|zo rfl (fI 0 jC rfl rfl rfl)<|bD<|ay bJ rfl oD rfl (ht rfl) hI<|zo rfl (fI 1 re rfl rfl rfl)<|ay Ky rfl qL rfl (ht rfl) hI<|zo rfl (fI 2 M0 rfl rfl rfl)<|ay Sw rfl HI rfl (ht rfl) hI<|an<|bg<|aF ?_;exact bL (K (M.mk (0:Int) (0:Int) (0:Int) v.S) h) (aZ J)
        ·refine dA<|bg ?_;refine bM J (ac (bM J (ac (bM J (ac (bM J (ac (bM J (ac (aF ?_))))))))));refine aX ?_;exact bL (K v h) (aZ J)

theorem A8(v:M){R:Int}(h:jL v=some R):aN aM 118 [tD af v] (bH R):=by
 refine aN.of Tryz.func118 J J J fun w0 S0=>aq<|zo J (jh J)<|zo J (cQ)<|an<|ae<|aq<|zo J (bz bt J J)<|bF h fun r q_r h=>zo J (aD V9 (PN _ q_r) ⟨(ht J),aU⟩)<|zo J (cb (y:=lb) bt wY ca (J))<|zo J (AU TP (ht J) (ht J))<|an<|cX h J (fun h=>?_) (fun h=>?_)
 ·refine aq<|zo J (cQ)<|an<|aj<|aa ?_;cases so h;exact aB J J
 ·refine dA<|aq<|zo J (cQ)<|an<|aj ?_;cases so h;exact aB J J

theorem Fh(v:M){R:Bool}(h:kB v=some R):aN aM 68 [tD af v] (gK R):=by
 refine aN.of Tryz.func68 J J J fun w0 S0=>aq<|zo J (jh J)<|zo J (fJ)<|an<|aq<|zo J (bz bt J J)<|bF h fun r q_r h=>zo J (aD JZ (A8 _ q_r) ⟨(ht J),aU⟩)<|zo J (jy J)<|aA J<|bO J J (fun hg=>cd jC ee J J)<|bO J J (fun hg=>aY bJ J J (aS J hg))<|bO J J (fun hg=>dg (aS J hg) hI)<|zo J (la J J)<|bk J<|an<|aj ?_;cases so h;exact aB J J

theorem PO(n:bc){R:Bool}(h:rK n=some R):aN aM 181 [tD aQ n] (gK R):=by
 refine aN.of Tryz.func181 J J J fun w0 S0=>aq<|zo J (jh J)<|zo J (fJ)<|an<|ae<|aq<|zo J (cd iA ef J J)<|zo J (bz bJ J J)<|an<|ax<|aq<|zo J (jy J)<|bk J<|an<|cX h J (fun h=>?_) (fun h=>?_)
 ·refine aq<|zo J (cd yd rb J J)<|zo J (bz bt J J)<|bF h fun r q_r h=>zo J (aD QU (Fh _ q_r) ⟨(ht J),aU⟩)<|aA J<|bO J J (fun hg=>cd m3 iG J J)<|bO J J (fun hg=>aY bJ J J (aS J hg))<|bO J J (fun hg=>bK (aS J hg) hI)<|zo J (la J J)<|bk J<|an<|aj ?_;refine aC (aa ?_);cases so h;exact aB J J
 ·refine aq<|zo J (jy J)<|bk J<|an<|cX h J (fun h=>?_) (fun h=>?_)
  ·refine aq<|zo J (cd yd rb J J)<|zo J (bz bt J J)<|zo J (cb (y:=lb) bt wY ca (J))<|zo J (Je TP (ht J) (ht J))<|aA J<|bO J J (fun hg=>cd m3 iG J J)<|bO J J (fun hg=>aY bJ J J (aS J hg))<|bO J J (fun hg=>dQ (aS J hg) hI)<|zo J (la J J)<|aA J<|bO J J (fun hg=>cd m3 iG J J)<|bO J J (fun hg=>aY bJ J J (aS J hg))<|bO J J (fun hg=>dI (aS J hg) hI)<|zo J (la J J)<|bk J<|an<|aj ?_;refine aC (aa ?_);cases so h;exact aB J J
  ·refine bA<|am<|au<|aq<|zo rfl (cd yd rb rfl rfl)<|zo rfl (bz bt rfl rfl)<|zo rfl (cb (y:=lb) bt wY ca (J))<|zo J (Je TP (ht J) (ht J))<|aA J<|bO J J (fun hg=>cd m3 iG J J)<|bO J J (fun hg=>aY bJ J J (aS J hg))<|bO J J (fun hg=>bK (aS J hg) hI)<|zo J (la J J)<|bk J<|an<|aj ?_;cases so h;exact aB J J

theorem JP(e:bf){R:(List Int)×Bool}(h:rJ e=some R):aN aM 115 [tD bn e] (tT [kz R.1,gK R.2]):=by
 refine aN.of Tryz.func115 J J J fun w0 S0=>aq<|zo J (jh J)<|zo J (bm (show aE _ _ _ (kz ([]))from uf))<|zo J (fJ)<|an<|aq<|cm false bQ 3<|zo J (bm vP)<|cm false bQ 3<|zo J (bm vP)<|an<|ae<|aq<|zo J (cd fa dw J J)<|zo J (bz lU J J)<|zo J (ja jB J)<|zo J (bl hI)<|aH ?_;refine au<|ax<|aV (k:=15) J fun hN=>bB<|fc ?_;refine aJ (yE (Z:=fun ls i all l c open1 l1 c1=>(e.Nodes.drop i=ls)∧jr ls i all open1=some R) (Of:=fun _ i all l c open1 l1 c1=>[cG bQ 3 l c all,cG bQ 3 l1 c1 open1]) (Gf:=fun _ i all l c open1 l1 c1=>[(4,pQ l c all),(5,pQ l1 c1 open1),(15,d7 (aQ) e.Nodes),(16,hM e.Nodes),(17,bH (i:Int))]) (fun i all l c open1 l1 c1 h=>?_) (fun e1 tl ih i all l c open1 l1 c1 h=>?_) e.Nodes 0 mu none 0 mu none 0 ⟨J,h⟩) (aZ J)
 ·obtain⟨hx,h⟩:=h
  refine av<|aq<|zo J (eK J J)<|an<|ae<|bp (ht J) (cW hx)<|bg ?_;refine ac (ac (aF ?_));refine au<|aq<|aA rfl<|aA rfl<|zo rfl (fA dm (.tail _ (.head _)) (ht rfl))<|zo rfl (jy rfl)<|aA rfl<|bO rfl rfl (fun hg=>cL J)<|bO J J (fun hg=>fA dm (.head _) (aS J hg))<|bO J J (fun hg=>iT (aS J hg) hI)<|zo J (la J J)<|bk J<|bk J<|an<|aj<|gG<|gh 4 J<|gh 84 J<|gh 2 J<|qv 2 J<|ba<|ba ?_;cases so h;exact d5 J J J
 ·obtain⟨hx,h⟩:=h
  refine av<|aq<|zo J (eK J J)<|an<|ae<|bo (ht J) (cU hx)<|dA<|ae<|ax<|aq<|aA J<|zo J (iX jB cY J J J (cP hx))<|zo J (bz cY J J)<|aO (r:=aQ) (x:=ue) cY (fun _=>k8 _) J fun b=>bk J<|ay cY J ap J (ht J) (ht J)<|aL 7 J<|an<|ae ?_;refine ai<|zo J (cd iA ef J J)<|zo J (bz bJ J J)<|bF h fun r q_r h=>zo J (aD JY (A7 _ q_r) ⟨(ht J),aU⟩)<|bk J<|an<|ae<|aq<|aA J<|zo J (dI (ht J) hI)<|aA J<|cN J J (fun hg=>cL J)<|cN J J (fun hg=>cL J)<|cN J J (fun hg=>fA dm (.tail _ (.head _)) (aS J hg))<|cN J J (fun hg=>gx (aS J hg) (aS J hg))<|zo J (pZ J J)<|aA J<|bF h fun t q_t h=>cN J J (fun hg=>bz cY J J) ?_
  obtain⟨r1,h1t,h0t⟩:=og q_t
  have q_r1g:=fun hb=>(h1t hb).1
  refine cN J J (fun hg=>aD Wa (PO _ (q_r1g hg)) ⟨(aS J hg),aU⟩)<|cN J J (fun hg=>dH (aS J hg))<|zo J (fi (ht J) (fun hb=>(aS J (oL hb))) (fun hb=>(h1t hb).2) h0t)<|an<|cX h J (fun h=>?_) (fun h=>?_)
  ·refine aq<|zo J (bm (show aE _ _ _ (kz ([]))from uf))<|zo J (fJ)<|an<|aj ?_;refine aa (aC (aa (aa (aC (aa ?_)))));refine ba<|ba ?_;cases so h;exact d5 J J J
  ·refine dA<|aq<|aA J<|aA J<|zo J (fA dm (.tail _ (.head _)) (ht J))<|aA J<|zo J (fK (ht J) (ht J))<|bF h fun y q_y h=>zo J (me dm bJ J (.tail _ (.head _)) (ht J) (ht J) q_y)<|mI (.tail _ (.head _)) q_y fun hv=>bk J<|an<|aq<|zo J (oJ (r:=bQ) (ys:=[mt,mt]) (xs:=[.const (.int .i64 (-1)),.const (.int .i64 (-1))]) Bd bJ J AA J J ⟨hI,hI,aU⟩)<|aO (r:=CN) (x:=(List.replicate 2 (0:Int))) AA (fun _=>vm (r:=bQ) 2 (fun _=>J) _) J fun b1=>ay AA J ap J (ht J) (ht J)<|an<|aq ?_;refine aA J<|bk J<|an<|ae<|aq<|aA J<|zo J (Jd dm (.tail _ (.tail _ (.head _))) q_y (ht J))<|zo J (bl hI)<|an<|ax ?_
   have hN1:=hv.2
   refine bB<|jI<|jI ?_;refine aJ (rm (Z:=fun ls1 i1 first at1=>(y.drop i1=ls1)∧ku (jr tl) i e1 all open1 r ls1 i1 first at1=some R) (Of:=fun _ i1 first at1=>[cG bQ 3 l c all,cG bQ 3 l1 c1 open1,bx CN 61 b1 at1]) (Gf:=fun _ i1 first at1=>[(4,pQ l c all),(5,pQ l1 c1 open1),(6,bH (i:Int)),(7,bq aQ e1),(8,bH r),(10,tV (aI b1 0)),(11,bH first),(15,d7 (aQ) e.Nodes),(16,hM e.Nodes),(17,bH (i:Int)),(46,tV (lc 1 l1 c1 (IntKind.i64.wrap ((open1.length:Int)-r)).toNat y.length)),(47,hM y),(48,bH (i1:Int))]) (fun i1 first at1 h=>?_) (fun e2 tl1 ih1 i1 first at1 h=>?_) y 0 (i:Int) L0 ⟨J,h⟩) (aZ J)
   ·obtain⟨hx1,h⟩:=h
    refine av<|aq<|zo J (eK J J)<|an<|ae<|bp (ht J) (cW hx1)<|bg ?_;refine ac (ac (aF ?_));refine au<|ae<|aq<|zo rfl (br AA rfl rfl cF (.tail _ (.tail _ (.head _))) (ht rfl))<|zo rfl (cd pi oU rfl rfl)<|zo rfl (bz bJ rfl rfl)<|zo rfl (cd ph oT rfl rfl)<|zo rfl (bz bJ rfl rfl)<|zo rfl (oJ (r:=bQ) (ys:=[e1.L,e1.R]) (xs:=[.tmp 65,.tmp 67]) Bd bJ J AA J J ⟨(ht J),(ht J),aU⟩)<|zo J (AU QG (ht J) (ht J))<|an<|cX h J (fun h=>?_) (fun h=>?_)
    ·refine aq<|zo J (bm (show aE _ _ _ (kz ([]))from uf))<|zo J (fJ)<|an<|aj ?_;refine aa (aC (aa (aa (aC (aa ?_)))));refine ba<|ba<|ba ?_;cases so h;exact d5 J J J
    ·refine dA<|aq<|aA J<|aA J<|zo J (aP (r:=bQ) (ys:=[first]) (xs:=[.tmp 71]) dm bJ J J J J J ⟨(ht J),aU⟩)<|bF h fun all1 q_all1 h=>ep bJ J J J J dm J J (ht J) (ht J) q_all1 fun l2 c2=>bk J<|an<|ai<|aA J<|aA J<|zo J (fA dm (.tail _ (.head _)) (ht J))<|aA J<|zo J (fK (ht J) (ht J))<|bF h fun y1 q_y1 h=>zo J (kD dm bJ J (.tail _ (.head _)) (ht J) (ht J) q_y1)<|aA J<|zo J (aP (r:=bQ) (ys:=[(i:Int)]) (xs:=[.tmp 80]) dm bJ J J J J J ⟨(ht J),aU⟩)<|bD<|zz q_y1 ?_;refine bF h fun open2 q_open2 h=>ep bJ J J J J dm J J (ht J) (ht J) q_open2 fun l3 c3=>bk J<|aH<|am<|au<|ai<|zo rfl (jU (cz hx hN) rfl)<|aA rfl<|aH<|aR<|ba<|aX ?_;exact aT (aJ (ih (i+1) all1 l2 c2 open2 l3 c3 ⟨cy hx,h⟩) (aZ J))
   ·obtain⟨hx1,h⟩:=h
    refine av<|aq<|zo J (eK J J)<|an<|ae<|bo (ht J) (cU hx1)<|dA<|ae<|ax<|aq<|aA J<|zo J (wB dm bJ J (.tail _ (.head _)) q_y (ht J) (ht J) (cP hx1))<|zo J (fG (r:=bQ) (i:=((IntKind.i64.wrap ((open1.length:Int)-r))+(i1:Int))) (foff:=0) bJ J J cF J (.tail _ (.head _)) (wQ q_y (cP hx1)).1 (ht J))<|bk J<|bk J<|an<|bF h fun e3 q_e3 h=>bF h fun e4 q_e4 h=>bF h fun ar q_ar h=>?_
    refine oe 10 [tc (bH (i1:Int)),tc (bH e2),tc (bH first),tc (pQ l c all),tc (bH e2),tc (tV (oX l (e2.toNat*1+0))),tc (bH e3),tc (bH (min first e3)),tc (tV (aI b1 ((i1:Int).toNat*1))),tc (Bq)] [false,false,false,false,false,false,false,false,false,true] [fun _=>[cG bQ 3 l c all,cG bQ 3 l1 c1 open1,bx CN 61 b1 at1],fun sg=>[bx CN 61 b1 ar,cG bQ 3 l c all,cG bQ 3 l1 c1 open1]] J mixed J J J J J
     ⟨⟨[⟨12,fun _=>tD bQ (i1:Int),none⟩],_,0,0,J,⟨(fun _=>J),aU⟩,J,J,J,J,J,fun _ sg _ _=>ak J (cL J)⟩,
     ⟨⟨[⟨13,fun _=>tD bQ e2,none⟩],_,0,0,J,⟨(fun _=>J),aU⟩,J,J,J,J,J,fun _ sg _ _=>ak J (cL J)⟩,
     ⟨⟨[⟨11,fun _=>tD bQ first,none⟩],_,0,1,J,⟨(fun _=>J),aU⟩,J,J,J,J,J,fun _ sg _ _=>ak J (cL J)⟩,
     ⟨⟨[⟨4,fun _=>tV (aw l c all.length),none⟩],_,0,1,J,⟨(fun _=>J),aU⟩,J,J,J,J,J,fun _ sg _ _=>ak J (cL J)⟩,
     ⟨⟨[⟨13,fun _=>tD bQ e2,none⟩],_,0,1,J,⟨(fun _=>J),aU⟩,J,J,J,J,J,fun _ sg _ _=>ak J (cL J)⟩,
     ⟨⟨[⟨56,fun _=>tV (aw l c all.length),some 3⟩,⟨57,fun _=>tD bQ e2,some 4⟩],_,0,1,J,⟨(fun _=>J),(fun _=>J),aU⟩,J,J,J,J,J,Ks (fun sg=>ak J (dk dm bJ (.head _) (ht J) (ht J) q_e3)) (yR (fun sg=>ak J (dk dm bJ (.tail _ (.head _)) (ht J) (ht J) q_e3)))⟩,
     ⟨⟨[⟨58,fun _=>tV (oX l (e2.toNat*1+0)),some 5⟩],_,0,1,J,⟨(fun _=>J),aU⟩,J,J,J,J,J,Ks (fun sg=>ak J (fG (r:=bQ) (i:=e2) (foff:=0) bJ J J cF J (.head _) q_e3 (ht J))) (yR (fun sg=>ak J (fG (r:=bQ) (i:=e2) (foff:=0) bJ J J cF J (.tail _ (.head _)) q_e3 (ht J))))⟩,
     ⟨⟨[⟨55,fun _=>tD bQ first,some 2⟩,⟨59,fun _=>tD bQ e3,some 6⟩],_,0,1,J,⟨(fun _=>J),(fun _=>J),aU⟩,J,J,J,J,J,fun _ sg _ _=>ak J (EZ (ht J) (ht J))⟩,
     ⟨⟨[⟨10,fun _=>tV (aI b1 0),none⟩,⟨53,fun _=>tD bQ (i1:Int),some 0⟩],_,0,0,J,⟨(fun _=>J),(fun _=>J),aU⟩,J,J,J,J,J,yR (fun sg=>ak J (ig Bd bJ (.tail _ (.tail _ (.head _))) (ht J) (ht J) q_e4))⟩,
     ⟨⟨[⟨61,fun _=>tV (aI b1 ((i1:Int).toNat*1)),some 8⟩,⟨54,fun _=>tD bQ e2,some 1⟩],_,J,⟨(fun _=>J),(fun _=>J),aU⟩,J,J,J,fun sg=>dN J (EffOK.fr2 (IB bJ J q_e4 (so q_ar) (ht J) (ht J)))⟩,
     aU⟩⟩⟩⟩⟩⟩⟩⟩⟩⟩ (fun sg=>?_)
    refine(show RG _ _ _ _ [bx CN 61 b1 ar,cG bQ 3 l c all,cG bQ 3 l1 c1 open1] _ from ?_);refine bk J<|aH<|am<|au<|ai<|zo rfl (jU (cz hx1 hN1) rfl)<|aA rfl<|aH<|aR<|aR ?_;exact aT (aJ (ih1 (i1+1) (min first e3) ar ⟨cy hx1,h⟩) (aZ J))

end Go.Proofs.YtmogpgcfognefaaGreatDoor

