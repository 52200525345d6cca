/- cE of this claim: P17. -/
import Derived.Test.YtdohlidddcgfjaaGreatFcT
import Derived.Test.YtdohlidddcgfjaaGreatFcP16
set_option linter.all false
namespace Go.Proofs.YtdohlidddcgfjaaGreat
open Go
set_option maxRecDepth 100000

def L8 n parts{R}(h:dO n parts=some R):cX bd 94 [tD aM n,em (nq) parts] (tT [jK R.1,fM R.2]):=by
 refine dK Tryz.func94 J<|d<|qV (D J) J fun b=>fO bV<|bm<|bu<|d<|ci true aM 89<|bz (r:=nY) (x:=pR (⟨[]⟩:dZ) (ay none 0 (([]:List tV).length))) FP K0 J fun b1=>bu<|aS<|Q J<|bI uh J<|s (bT hI)<|bu<|ak<|bo (k:=14) J fun hN=>?_;refine bA<|dY<|dY<|kV ?_;refine aH (yN (aa:=fun ls i n1 l l1 c=>(parts.drop i=ls)/\cb ls i n1 l=some R) (Of:=fun _ i n1 l l1 c=>[bx aM 89 b n1,bx nY 93 b1 (pR l (ay l1 c l.Nodes.length)),tip aM 89 l1 c l.Nodes]) (Gf:=fun _ i n1 l l1 c=>[(2,M (Z b 0)),(6,M (Z b1 0)),(14,em (nq) parts),(15,kE parts),(16,bH (i:Int))]) (fun i n1 l l1 c h=>?_) (fun e tl ih i n1 l l1 c h=>?_) parts 0 n ({(⟨[]⟩:dZ)with Nodes:=([]:List tV)}:dZ) none 0 ⟨J,h⟩) (aX J)
 ·obtain⟨V,h⟩:=h
  refine ez V J<|au<|d<|bh 0 pb J<|s (mE qe qr (.tail _ (.head _)) (.tail _ (.tail _ (.head _))) J (D J))<|s (aL dA J J bC (.head _) (D J))<|s (aI (r:=aM) (ys:=[n1]) (xs:=[.tmp 71]) j4 dA J J J J J ⟨(D J),aZ⟩)<|cZ<|bR h fun l2 q_l2 h=>oo dA J J J J j4 J J (D J) (D J) q_l2 fun l3 c1=>bh 0 pb J<|cZ ?_;exact hU qe J (s6 _ _ _) J (D J) (FI (xV (D J)))<|bu<|d<|bY<|s (Al (q:=lP) (y:=({l with Nodes:=l2}:dZ)) FP J J J J (.tail _ (.head _)) (fun _ _ _ ho h=>Dn (qk ho (.head _)) h) (D J))<|bh 0 pb J<|s (mE qe qr (.tail _ (.head _)) (.head _) J (D J))<|s (eS j4 (mX (D J)))<|s (dP (D J) hI)<|eE h Sl (UQ _ _) (cy J) fun r h=>dz J J<|dz J J<|d6 J<|bf J<|aV<|aV<|aV<|so h▸cg J J J
 ·obtain⟨V,h⟩:=h
  refine ew V J<|aP<|ak<|ax J<|dg uh cu J (dJ V)<|d6 J<|aN J<|aS ?_;refine Q J<|eE h abA (US _) (cy J) fun r1 h=>bW h J (fun h=>?_) (fun h=>?_)
  ·exact d<|fO bV<|bm<|bM<|af<|cx<|af<|cx<|aV<|aV<|aV<|so h▸cg J J J
  ·refine fN<|d<|s (aI (r:=bV) (ys:=[(1:Int),(2:Int),(3:Int)]) (xs:=[.const (.int .i64 (1)),.const (.int .i64 (2)),.const (.int .i64 (3))]) df bB J J J J J ⟨hI,hI,hI,aZ⟩)<|s (ee (y:=S4) dA Xb ie (⟨_,_,_,_,_,J,uv,J,hI,⟨_,_,_,_,_,J,m0,J,hI,⟨_,_,_,_,_,J,mZ,J,hI,⟨_,_,_,_,_,J,Ek,J,(D J),J⟩⟩⟩⟩))<|bz dA ie J fun b2=>bO dA aB J<|bj 9 J<|bu<|d<|bh 0 pb J<|s (mE qe qr (.tail _ (.head _)) (.tail _ (.tail _ (.head _))) J (D J))<|s (eS j4 (mX (D J)))<|ci true bN 84<|s (ee (y:=pS (⟨(5:Int),(l.Nodes.length:Int),xD,(0:Int),[],false,my,[],[],[],[],(0:Int)⟩:tV) (ay none 0 (SU.length))) dA Xb DU (⟨_,_,_,_,_,J,HT,J,hI,⟨_,_,_,_,_,J,HS,J,(D J),⟨_,_,_,_,_,J,HR,J,hI,J⟩⟩⟩))<|ci true bN 84<|bz (r:=lO) (x:=pS Qe (ay none 0 (SU.length))) dA DU J fun b3=>cZ<|bY<|hU dA J (su J) J (D J) (D J)<|cZ ?_;refine zh<|bu<|aS<|Q J<|bI df J<|s (bT hI)<|bu<|ak<|bo (k:=29) J fun hN1=>bA<|dY<|dY<|CF<|CF<|CF ?_;refine aH (jz (aa:=fun ls1 i1 p l4 c2=>(e.drop i1=ls1)/\dQ (cb tl) i n1 l ls1 p=some R) (Of:=fun _ i1 p l4 c2=>[bx aM 89 b n1,bx nY 93 b1 (pR l (ay l1 c l.Nodes.length)),tip aM 89 l1 c l.Nodes,bx lO 89 b3 (pS p (ay l4 c2 p.Items.length)),tip bN 84 l4 c2 p.Items]) (Gf:=fun _ i1 p l4 c2=>[(2,M (Z b 0)),(6,M (Z b1 0)),(7,bH (i:Int)),(9,ck aM S4),(10,M (Z b3 0)),(14,em (nq) parts),(15,kE parts),(16,bH (i:Int)),(29,jK e),(30,kE e),(31,bH (i1:Int))]) (fun i1 p l4 c2 h=>?_) (fun e1 tl1 ih1 i1 p l4 c2 h=>?_) e 0 ({(⟨(5:Int),(l.Nodes.length:Int),xD,(0:Int),[],false,my,[],[],[],[],(0:Int)⟩:tV)with Items:=SU}:tV) none 0 ⟨J,h⟩) (aX J)
   ·obtain⟨hx1,h⟩:=h
    refine ez hx1 J<|au<|d<|bh 0 pb J<|s (mE qe qr (.tail _ (.head _)) (.tail _ (.tail _ (.head _))) J (D J))<|dH dA J<|j0<|s (Al (q:=aM) (y:=p) dA J J J J (.tail _ (.tail _ (.tail _ (.tail _ (.head _))))) (fun _ _ _ ho h=>Do (qk ho (.head _)) h) (D J))<|s (aI (r:=aM) (ys:=[S4,p]) (xs:=[.tmp 51,.tmp 52]) j4 dA J J J J J ⟨(D J),(D J),aZ⟩)<|kU<|bR h fun l5 q_l5 h=>oo dA J J J J j4 J J (D J) (D J) q_l5 fun l6 c3=>?_;refine bh 0 pb J<|kU<|hU qe J (s6 _ _ _) J (D J) (FI (xV (D J)))<|bu<|ax J<|bp J<|bW h J (fun h=>?_) (fun h=>?_)
    ·refine aj<|bh 0 pb J<|s (mE qe qr (.head _) (.tail _ (.head _)) J (D J))<|s (eS j4 (mX (D J)))<|s (dP (D J) hI)<|bh 1 jw J<|kU<|bO bB m0 J<|aJ<|dd V hN J<|ba<|aV<|ba<|aV ?_;exact aU (aH (ih (i+1) (tV.mk n1.Op (IntKind.i64.wrap ((l5.length:Int)-(1:Int))) n1.B n1.Table n1.Kinds n1.Left n1.Cond n1.Keys n1.Aggs n1.Items n1.Order n1.Limit) ({l with Nodes:=l5}:dZ) l6 c3 ⟨da V,h⟩) (aX J))
    ·refine aj<|bh 0 pb J<|s (mE qe qr (.head _) (.tail _ (.head _)) J (D J))<|s (eS j4 (mX (D J)))<|s (dP (D J) hI)<|bh 2 kz J<|kU<|bO bB mZ J<|aJ<|dd V hN J<|ba<|aV<|ba<|aV ?_;exact aU (aH (ih (i+1) (tV.mk n1.Op n1.A (IntKind.i64.wrap ((l5.length:Int)-(1:Int))) n1.Table n1.Kinds n1.Left n1.Cond n1.Keys n1.Aggs n1.Items n1.Order n1.Limit) ({l with Nodes:=l5}:dZ) l6 c3 ⟨da V,h⟩) (aX J))
   ·obtain⟨hx1,h⟩:=h
    refine ew hx1 J<|aP<|ak<|d<|dg df bB J (dJ hx1)<|aN J<|d<|s (ee (y:=(⟨(1:Int),(0:Int),(0:Int),(0:Int),iF⟩:av)) eo Rx lc (⟨_,_,_,_,_,J,Ab,J,hI,J⟩))<|bz eo lc J fun b4=>bO eo aB J ?_;refine bu ?_;refine d5 (aa:=fun e2=>mN (dQ (cb tl) i n1 l tl1) p e2=some R) (Of:=fun e2=>[bx aM 89 b n1,bx bt 160 b4 e2,bx nY 93 b1 (pR l (ay l1 c l.Nodes.length)),tip aM 89 l1 c l.Nodes,bx lO 89 b3 (pS p (ay l4 c2 p.Items.length)),tip bN 84 l4 c2 p.Items]) (Gf:=fun e2=>[(2,M (Z b 0)),(6,M (Z b1 0)),(7,bH (i:Int)),(9,ck aM S4),(10,M (Z b3 0)),(13,M (Z b4 0)),(14,em (nq) parts),(15,kE parts),(16,bH (i:Int)),(29,jK e),(30,kE e),(31,bH (i1:Int))]) (fun e2 h=>?_) (fun h2=>?_)
    ·skip
     refine bR h fun r2 q_r2 h=>?_
     refine qN 5 (ts:=[M (Z b3 9),tO bN l4 c2 p.Items,tD bt e2,tD bN r2,em (bN) ([r2])]) mixed J J J
      ⟨zZ 10 J J (q9 9 oc J J J),
      ⟨ff 41 0 J J (mE wH Is (.tail _ (.tail _ (.tail _ (.tail _ (.head _))))) (.tail _ (.tail _ (.tail _ (.tail _ (.tail _ (.head _)))))) J (D J)),
      ⟨zZ 13 J J (aL eo J J bC (.tail _ (.head _)) (D J)),
      ⟨ff 43 2 J J (cD abz (UR _ _ q_r2) ⟨(D J),Pl,aZ⟩),
      ⟨ff 44 3 J J (aI (r:=bN) (ys:=[r2]) (xs:=[.tmp 44]) qD gn J J J J J ⟨(D J),aZ⟩),
      aZ⟩⟩⟩⟩⟩ ?_
     refine lH<|bR h fun l7 q_l7 h=>oo gn J J J J qD J J (D J) (D J) q_l7 fun l8 c4=>bh 9 oc J<|lH<|hU wH J (xW _ _ _) J (D J) (FI (xV (D J)))<|aJ<|dd hx1 hN1 J<|ba<|aV<|am<|am<|eD<|eD<|eD ?_;exact aU (aH (ih1 (i1+1) ({p with Items:=l7}:tV) l8 c4 ⟨da hx1,h⟩) (aX J))
    ·skip
     refine ax J<|s (dD (D J) hI)<|bW h J (fun h=>?_) (fun h=>?_)
     ·refine aj<|Q J<|s (dP (D J) hI)<|s (ee (y:=(⟨(2:Int),(0:Int),(0:Int),(IntKind.i64.wrap (e1-(1:Int))),iF⟩:av)) eo Rx lc (⟨_,_,_,_,_,J,Ab,J,hI,⟨_,_,_,_,_,J,El,J,(D J),J⟩⟩))<|bO eo aB J<|aJ<|dp<|dp<|dp<|dp<|eD<|dp ?_;exact bE (h2 (⟨(2:Int),(0:Int),(0:Int),(IntKind.i64.wrap (e1-(1:Int))),iF⟩:av) h) (aX J)
     ·refine bc<|dp<|dp<|dp<|dp<|eD<|dp ?_;exact bE (h2 (⟨(1:Int),(0:Int),(0:Int),(0:Int),iF⟩:av) h) (aX J)

def TY n kinds{R}(h:oG n kinds=some R):gm bd 95 [tD aM n,jK kinds] false bV 3 R:=by
 refine gm.of Tryz.func95 J J J fun w0 S0=>d<|dl J<|ci false bV 3<|s (bU tE)<|bu<|d<|kD (r:=bV) (ys:=pu) (xs:=[]) df bB J J J J J trivial J fun l c=>Q J<|bR h fun out q_out h=>bD bB J J J J df J J (D J) (D J) q_out fun l1 c1=>aN J<|aS<|aQ gA cO o0 J<|bI lb J<|s (bT hI) ?_;refine bu<|ak<|bo (k:=12) J fun hN=>bA<|dY<|lu ?_;refine aH (uS (aa:=fun ls i out1=>(n.Aggs.drop i=ls)/\lD n ls i out1=some R) (Of:=fun _ i out1=>[db bV 3 l1 c1 out1]) (Gf:=fun _ i out1=>[(2,ck aM n),(5,nO l1 c1 out1),(12,em (fh) n.Aggs),(13,kE n.Aggs),(14,bH (i:Int))]) (fun i out1 h=>?_) (fun e tl ih i out1 h=>?_) n.Aggs 0 out ⟨J,h⟩) (aX J)
 ·obtain⟨V,h⟩:=h
  exact ez V J<|au<|ax J<|bf J<|so h▸fL J J
 ·obtain⟨V,h⟩:=h
  refine ew V J<|aP<|ak<|ax J<|dg lb ig J (dJ V)<|bz ig tq J fun b=>d6 J<|bO ig aB J<|bj 7 J<|bu<|aP ?_;refine aj<|aQ jx hM bB J<|bp J<|bW h J (fun h=>?_) (fun h=>?_)
  ·refine aj<|Q J<|aQ ju dE cu J<|bI df J<|Q J<|s (cW (D J) (D J))<|bR h fun e1 q_e1 h=>s (eH df bB (.head _) (D J) (D J) q_e1)<|bR h fun st q_st h=>zf bB J aB J q_e1 (so q_st) (D J) hI<|rs (u9 (so q_st)) 5 J<|rs (u9 (so q_st)) 22 J<|aJ<|dd V hN J ?_;exact aU (aH (ih (i+1) st ⟨da V,h⟩) (aX J))
  ·refine bc<|dd V hN J ?_;exact aU (aH (ih (i+1) out1 ⟨da V,h⟩) (aX J))
def Xe n a1{R}(h:pH n a1=some R):cX bd 96 [tD aM n,jK a1] (tT [jK R.1,fM R.2]):=by
 refine dK Tryz.func96 J<|d<|dl J<|fO bV<|bm<|bu<|aS<|aQ ju dE cu J<|bI df J<|s (dD (D J) hI)<|Q J<|aD J (bv gA cO J J)<|aD J (bq o0 J J)<|aD J (gp lb J)<|aD J (fun Y=>dD (bl J Y) hI)<|dG J<|Q J<|aD J (bv ju dE J J)<|aD J (bq cu J J) ?_;refine aD J (gp df J)<|aD J (bv gA cO J J)<|aD J (bq o0 J J)<|aD J (gp lb J)<|aD J (fun Y=>cW (bl J Y) (bl J Y))<|aD J (bX J)<|aD J (gp df J)<|aD J (fun Y=>du (bl J Y) (bl J Y))<|dG J<|Q J<|aD J (bX J)<|aD J (gp df J)<|aD J (gQ J)<|dG J<|bW h J (fun h=>?_) (fun h=>?_)
 ·exact d<|fO bV<|bm<|bM<|af<|so h▸cg J J J
 ·refine fN<|d<|ci false bV 3<|s (bU tE)<|bu<|aS<|aQ ju dE cu J<|bI df J<|s (bT hI)<|bu<|ak<|bo (k:=40) J fun hN=>bA ?_;refine aH (jz (aa:=fun ls i out l c=>(n.Keys.drop i=ls)/\nz n a1 ls i out=some R) (Of:=fun _ i out l c=>[db bV 3 l c out]) (Gf:=fun _ i out l c=>[(1,jK a1),(2,ck aM n),(6,nO l c out),(40,jK n.Keys),(41,kE n.Keys),(42,bH (i:Int))]) (fun i out l c h=>?_) (fun e tl ih i out l c h=>?_) n.Keys 0 pu none 0 ⟨J,h⟩) (aX J)
  ·obtain⟨V,h⟩:=h
   refine ez V J<|au<|aS<|aQ gA cO o0 J<|bI lb J<|s (bT hI)<|bu<|ak<|bo (k:=66) J fun hN1=>?_;refine bA ?_;refine aH (jz (aa:=fun ls1 i1 out1 l1 c1=>(n.Aggs.drop i1=ls1)/\fQ n a1 ls1 i1 out1=some R) (Of:=fun _ i1 out1 l1 c1=>[db bV 3 l1 c1 out1]) (Gf:=fun _ i1 out1 l1 c1=>[(1,jK a1),(2,ck aM n),(6,nO l1 c1 out1),(66,em (fh) n.Aggs),(67,kE n.Aggs),(68,bH (i1:Int))]) (fun i1 out1 l1 c1 h=>?_) (fun e1 tl1 ih1 i1 out1 l1 c1 h=>?_) n.Aggs 0 out l c ⟨J,h⟩) (aX J)
   ·obtain⟨hx1,h⟩:=h
    refine ez hx1 J<|au<|ax J<|d6 J<|bm<|bM<|dq<|bP 6 J<|bP 107 J ?_;exact bP 4 J<|eW 4 J<|aV<|so h▸cg J J J
   ·obtain⟨hx1,h⟩:=h
    refine ew hx1 J<|aP<|ak<|ax J<|dg lb ig J (dJ hx1)<|bz ig tq J fun b=>d6 J<|bO ig aB J<|bj 10 J<|bu<|aP ?_;refine aj<|Q J<|aQ ju dE cu J<|bI df J<|Q J<|s (cW (D J) (D J))<|bR h fun e2 q_e2 h=>dg df bB J q_e2<|aN J<|aS<|qE oe ma J<|aQ f7 dw nM J<|bI j5 J<|s (dD (D J) hI)<|bW h J (fun h=>?_) (fun h=>?_)
    ·exact d<|fO bV<|bm<|bM<|af<|cx<|af<|cx<|aV<|so h▸cg J J J
    ·refine fN<|aS<|aQ jx hM bB J<|bu<|ak ?_;refine d5 (aa:=fun x=>pG (fQ n a1 tl1) i1 e1 out1 e2 x=some R) (Of:=fun x=>[db bV 3 l1 c1 out1]) (Gf:=fun x=>[(1,jK a1),(2,ck aM n),(6,nO l1 c1 out1),(11,bH e2),(66,em (fh) n.Aggs),(67,kE n.Aggs),(68,bH (i1:Int)),(87,bH e1.Tag),(88,fM x)]) (fun x h=>?_) (fun h2=>?_)
     ·skip
      refine fy h J (fun h=>?_) (fun h=>?_)
      ·refine ax J<|nP J<|bW h J (fun h=>?_) (fun h=>?_)
       ·exact d<|fO bV<|bm<|bM<|cx<|cx<|af<|cx<|aV<|so h▸cg J J J
       ·refine bc<|al<|au<|aj<|Q J<|Q J<|s (aI (r:=bV) (ys:=[e2]) (xs:=[.tmp 103]) df bB J J J J J ⟨(D J),aZ⟩)<|bR h fun out2 q_out2 h=>bD bB J J J J df J J (D J) (D J) q_out2 fun l2 c2=>d6 J<|aJ<|dd hx1 hN1 J ?_;exact aU (aH (ih1 (i1+1) out2 l2 c2 ⟨da hx1,h⟩) (aX J))
      ·refine d<|bp J<|aN J<|fy h J (fun h=>?_) (fun h=>?_)
       ·refine aS<|Q J<|nP J<|bW h J (fun h=>?_) (fun h=>?_)
        ·exact d<|fO bV<|bm<|bM<|af<|cx<|cx<|af<|cx<|aV<|so h▸cg J J J
        ·refine fN<|aj<|ca<|aJ<|al<|au<|aj<|Q J<|Q J<|s (aI (r:=bV) (ys:=[(2:Int)]) (xs:=[.tmp 103]) df bB J J J J J ⟨(D J),aZ⟩)<|bR h fun out3 q_out3 h=>bD bB J J J J df J J (D J) (D J) q_out3 fun l3 c3=>d6 J<|aJ<|dd hx1 hN1 J ?_;exact aU (aH (ih1 (i1+1) out3 l3 c3 ⟨da hx1,h⟩) (aX J))
       ·refine d5 (aa:=fun x1=>pF (fQ n a1 tl1) i1 out1 e2 x1=some R) (Of:=fun x1=>[db bV 3 l1 c1 out1]) (Gf:=fun x1=>[(1,jK a1),(2,ck aM n),(6,nO l1 c1 out1),(11,bH e2),(66,em (fh) n.Aggs),(67,kE n.Aggs),(68,bH (i1:Int)),(97,fM x1)]) (fun x1 h=>?_) (fun K1=>?_)
        ·skip
         refine fy h J (fun h=>?_) (fun h=>?_)
         ·refine ax J<|bp J<|bW h J (fun h=>?_) (fun h=>?_)
          ·exact d<|fO bV<|bm<|bM<|cx<|cx<|af<|cx<|aV<|so h▸cg J J J
          ·refine bc<|al<|au<|aj<|Q J<|Q J<|s (aI (r:=bV) (ys:=[e2]) (xs:=[.tmp 103]) df bB J J J J J ⟨(D J),aZ⟩)<|bR h fun out4 q_out4 h=>bD bB J J J J df J J (D J) (D J) q_out4 fun l4 c4=>d6 J<|aJ<|dd hx1 hN1 J ?_;exact aU (aH (ih1 (i1+1) out4 l4 c4 ⟨da hx1,h⟩) (aX J))
         ·exact d<|fO bV<|bm<|bM<|cx<|cx<|af<|cx<|aV<|so h▸cg J J J
        ·skip
         refine d<|bp J<|aN J<|fy h J (fun h=>?_) (fun h=>?_)
         ·refine bc ?_;exact bE (K1 (e1.Tag==(4:Int)) h) (aX J)
         ·refine aj<|bp J<|d6 J<|aJ ?_;exact bE (K1 (e1.Tag==(5:Int)) h) (aX J)
     ·skip
      refine d<|bp J<|aN J<|fy h J (fun h=>?_) (fun h=>?_)
      ·refine bc ?_;exact bE (h2 (e1.Tag==(1:Int)) h) (aX J)
      ·refine aj<|bp J<|d6 J<|aJ ?_;exact bE (h2 (e1.Tag==(2:Int)) h) (aX J)
  ·obtain⟨V,h⟩:=h
   refine ew V J<|aP<|ak<|ax J<|dg df bB J (dJ V)<|d6 J<|aN J<|aS ?_;refine Q J<|Q J<|s (du (D J) (D J))<|Q J<|bR h fun t q_t h=>aD J (bX J)<|aD J (bX J) ?_
   obtain⟨e3,h1t,h0t⟩:=og q_t
   have q_e3g:=fun H=>(h1t H).1
   refine aD J (fun Y=>fJ df bB J (bl J Y) (bl J Y) (q_e3g Y))<|aD J (bq bB J J)<|aD J (gQ J)<|s (jl (D J) (fun H=>(bl J (sb H))) (fun H=>(h1t H).2) h0t)<|bW h J (fun h=>?_) (fun h=>?_)
   ·exact d<|fO bV<|bm<|bM<|af<|cx<|af<|cx<|aV<|so h▸cg J J J
   ·refine fN<|aj<|Q J<|Q J<|Q J<|bR h fun e4 q_e4 h=>dg df bB J q_e4<|s (aI (r:=bV) (ys:=[e4]) (xs:=[.tmp 61]) df bB J J J J J ⟨(D J),aZ⟩)<|bR h fun out5 q_out5 h=>bD bB J J J J df J J (D J) (D J) q_out5 fun l5 c5=>d6 J<|aJ<|dd V hN J ?_;exact aU (aH (ih (i+1) out5 l5 c5 ⟨da V,h⟩) (aX J))

def Xx l{R}(h:pJ l=some R):cX bd 42 [em (aM) l] (tT [em (nq) R.1,bH R.2]):=by
 refine dK Tryz.func42 J<|d<|fO (nq)<|ca<|bu<|aS<|Q J<|bI j4 J<|s (fH (D J) hI)<|Q J<|aD J (bX J)<|aD J (gp j4 J)<|aD J (fun Y=>dD (bl J Y) hI)<|dG J<|bW h J (fun h=>?_) (fun h=>?_)
 ·exact d<|fO (nq)<|eg<|af<|so h▸cg J J J
 ·refine fN<|d<|ci false nq 69<|s (bU tE)<|bu<|aS<|Q J<|bI j4 J<|s (bT hI)<|bu<|ak<|bo (k:=20) J fun hN=>bA ?_;refine aH (jz (aa:=fun ls i out l1 c=>(l.drop i=ls)/\cT l ls i out=some R) (Of:=fun _ i out l1 c=>[db nq 69 l1 c out]) (Gf:=fun _ i out l1 c=>[(0,em (aM) l),(4,nO l1 c out),(20,em (aM) l),(21,kE l),(22,bH (i:Int))]) (fun i out l1 c h=>?_) (fun e tl ih i out l1 c h=>?_) l 0 V9 none 0 ⟨J,h⟩) (aX J)
  ·obtain⟨V,h⟩:=h
   refine ez V J<|au<|aS<|Q J<|Q J<|bI j4 J<|s (dP (D J) hI)<|eE h Se (RB _ _) (cy J) fun r h=>Q J<|bI j4 J ?_;refine s (du (D J) (D J))<|bW h J (fun h=>?_) (fun h=>?_)
   ·exact ax J<|bI j4 J<|s (dP (D J) hI)<|fO (nq)<|bf J<|af<|aV<|so h▸cg J J J
   ·exact fN<|ax J<|d6 J<|eg<|dq<|bP 4 J<|bP 151 J<|bP 2 J<|eW 2 J<|aV<|so h▸cg J J J
  ·obtain⟨V,h⟩:=h
   refine ew V J<|aP<|ak<|ax J<|dg j4 dA J (dJ V)<|bz dA ie J fun b=>d6 J<|bO dA aB J<|bj 6 J<|bu<|aP ?_;refine aj<|Q J<|Q J<|eE h Se (RB _ _) (cy J) fun r1 h=>s (dD (D J) hI)<|Q J<|bR h fun t q_t h=>ae J (fun Y=>yT dA J J) ?_
   obtain⟨r2,h1t,h0t⟩:=og q_t
   have q_r2g:=fun H=>(h1t H).1
   refine ae J (fun Y=>cD acd (Xg _ (q_r2g Y)) ⟨(bl J Y),aZ⟩)<|s (co (D J) (fun H=>(bl J H)) (fun H=>(h1t H).2) h0t)<|aN J<|d<|fO bV<|bu ?_;refine CI (aa:=fun ok k=>dr l (cT l tl) i e out ok k=some R) (Of:=fun ok k=>[db nq 69 l1 c out]) (Gf:=fun ok k=>[(0,em (aM) l),(4,nO l1 c out),(5,bH (i:Int)),(6,ck aM e),(7,fM ok),(8,jK k),(20,em (aM) l),(21,kE l),(22,bH (i:Int))]) (fun ok k h=>?_) (fun h2=>?_)
   ·skip
    refine d<|aQ ft cB bB J<|bp J<|Q J<|aD J (bv ft cB J J)<|aD J (bq bB J J)<|aD J (gQ J)<|dG J<|aN J<|aS<|Q J<|s (fG (D J))<|Q J<|aD J (bX J)<|aD J (nQ J)<|de J J J J (fun Y=>mt J)<|de J J J J (fun Y=>mt J)<|de J J J J (fun Y=>eS j4 (bl J Y)) ?_;refine de J J J J (fun Y=>dP (bl J Y) hI)<|de J J J J (fun Y=>du (bl J Y) (bl J Y))<|aD J (fun Y=>jm (bl J Y) (fun H=>(bl J (sd Y H))))<|dG J<|bW h J (fun h=>?_) (fun h=>?_)
    ·exact ax J<|fO (nq)<|bf J<|af<|cx<|af<|cx<|aV<|so h▸cg J J J
    ·refine fN<|aj<|Q J<|Q J<|s (aI (r:=vG) (ys:=[k]) (xs:=[.tmp 136]) uh cu J J J J J ⟨(D J),aZ⟩)<|bR h fun out1 q_out1 h=>bD cu J J J J uh J J (D J) (D J) q_out1 fun l2 c1=>d6 J<|aJ<|dd V hN J ?_;exact aU (aH (ih (i+1) out1 l2 c1 ⟨da V,h⟩) (aX J))
   ·skip
    refine ax J<|bW h J (fun h=>?_) (fun h=>?_)
    ·refine d<|ci false nq 69<|s (bU tE)<|bu ?_;refine zn (aa:=fun parts l3 c2=>pI l (cT l tl) i e out parts=some R) (Of:=fun parts l3 c2=>[db nq 69 l1 c out,db nq 69 l3 c2 parts]) (Gf:=fun parts l3 c2=>[(0,em (aM) l),(4,nO l1 c out),(5,bH (i:Int)),(6,ck aM e),(9,nO l3 c2 parts),(20,em (aM) l),(21,kE l),(22,bH (i:Int))]) (fun parts l3 c2 h=>?_) (fun K1=>?_)
     ·skip
      refine zn (aa:=fun parts1 l4 c3=>eC l (cT l tl) i e out parts1=some R) (Of:=fun parts1 l4 c3=>[db nq 69 l1 c out,db nq 69 l4 c3 parts1]) (Gf:=fun parts1 l4 c3=>[(0,em (aM) l),(4,nO l1 c out),(5,bH (i:Int)),(6,ck aM e),(9,nO l4 c3 parts1),(20,em (aM) l),(21,kE l),(22,bH (i:Int))]) (fun parts1 l4 c3 h=>?_) (fun K2=>?_)
      ·skip
       refine d<|aQ ft cB bB J<|bu<|ak<|d<|bp J<|aN J<|fy h J (fun h=>?_) (fun h=>?_)
       ·refine aj<|dH dA J<|eE h acc (Xf _) (cy J) fun r3 h=>Q J<|dz J J<|dz J J<|d6 J<|d6 J<|aJ<|al<|am<|aV ?_;exact bE (h2 r3.2 r3.1 h) (aX J)
       ·refine d<|bp J<|aN J<|fy h J (fun h=>?_) (fun h=>?_)
        ·refine d<|dH dA J<|bz dA ie J fun b1=>bO dA aB J<|bu<|d<|bh 0 ft J<|ek bB J uv J (D J) hI<|bu<|d<|s (aL (x:=(tV.mk (4:Int) e.A e.B e.Table e.Kinds e.Left e.Cond e.Keys e.Aggs e.Items e.Order e.Limit)) dA J J bC (.head _) (D J))<|Q J<|cZ<|ic<|fT 9 J<|fT 79 J<|eE h Yl (L8 _ _) ⟨(D J),(mX (D J)),aZ⟩ fun r4 h=>Q J ?_;refine dz J J<|dz J J<|d6 J<|aN J<|ax J<|bW h J (fun h=>?_) (fun h=>?_)
         ·refine aj<|dH dA J<|Q J<|ot h acb (TY _ _) (cy J) fun r5 h l5 c4=>d6 J<|aJ<|al<|dq<|bP 8 J<|bP 86 J<|eW 8 J<|aV<|aV<|aV ?_;exact bE (h2 r4.2 r5 h) (aX J)
         ·refine bc<|al<|aV<|aV ?_;exact bE (h2 r4.2 r4.1 h) (aX J)
        ·refine d<|bp J<|aN J<|fy h J (fun h=>?_) (fun h=>?_)
         ·refine aP<|bR h fun e1 q_e1 h=>bR h fun r6 q_r6 h=>?_
          refine gO (ts:=[_,_,_,_,_,_,_,_,_,_]) mixed J J
           ⟨zZ 6 J J (yT dA J J),
           ⟨fP J J,
           ⟨ff 91 1 J J (eH uh cu (.tail _ (.head _)) (D J) hI q_e1),
           ⟨ff 92 2 J J (jP (r:=vG) (i:=(0:Int)) (foff:=0) cu J J bC J (.tail _ (.head _)) q_e1 (D J)),
           ⟨ga 90 0 93 3 J J J (cD aca (Xe _ _ q_r6) ⟨(D J),(D J),aZ⟩),
           ⟨ff 94 4 J J (mt J),
           ⟨ff 89 5 J J (Jd J J),
           ⟨ff 89 5 J J (Jd J J),
           ⟨ff 95 6 J J (DX J),
           ⟨ff 96 7 J J (DX J),
           aZ⟩⟩⟩⟩⟩⟩⟩⟩⟩⟩ ?_
          refine au<|aj<|Q J<|Q J<|bR h fun t1 q_t1 h=>ae J (bX J)<|ae J (bv jw fS J J)<|ae J (bq bB J J) ?_
          obtain⟨e2,h1t1,h0t1⟩:=og q_t1
          have q_e2g:=fun H=>(h1t1 H).1
          refine ae J (fun Y=>fJ j4 dA J (bl J Y) (bl J Y) (q_e2g Y))<|ae J (fun Y=>fj ft J cB J (bl J Y))<|ae J (bq bB J J)<|ae J (gQ J)<|s (co (D J) (fun H=>(bl J H)) (fun H=>(h1t1 H).2) h0t1)<|d6 J<|aJ<|al<|am<|aV ?_;exact bE (h2 t1 r6.1 h) (aX J)
         ·refine d<|bp J<|aN J<|fy h J (fun h=>?_) (fun h=>?_)
          ·refine aj<|dH dA J<|eE h Yl (L8 _ _) ⟨(D J),Pl,aZ⟩ fun r7 h=>Q J<|dz J J<|dz J J<|d6 J<|d6 J<|aJ<|al<|am<|aV ?_;exact bE (h2 r7.2 r7.1 h) (aX J)
          ·refine aj<|dH dA J<|Q J<|bY<|ic<|fT 9 J<|fT 62 J<|eE h Yl (L8 _ _) ⟨(D J),(mX (D J)),aZ⟩ fun r8 h=>Q J<|dz J J<|dz J J<|d6 J<|d6 J<|aJ<|al<|aV ?_;exact bE (h2 r8.2 r8.1 h) (aX J)
      ·skip
       refine d<|aQ kz hE bB J<|s (dB (D J) hI)<|bW h J (fun h=>?_) (fun h=>?_)
       ·refine aj<|Q J<|Q J<|aQ kz hE bB J<|bR h fun e3 q_e3 h=>s (eH uh cu (.head _) (D J) (D J) q_e3)<|s (jP (r:=vG) (i:=e.B) (foff:=0) cu J J bC J (.head _) q_e3 (D J))<|s (aI (r:=vG) (ys:=[e3]) (xs:=[.tmp 55]) uh cu J J J J J ⟨(D J),aZ⟩)<|bY<|bR h fun parts2 q_parts2 h=>bD cu J J J J uh J J (D J) (D J) q_parts2 fun l6 c5=>d6 J<|aJ<|am ?_;exact bE (K2 parts2 l6 c5 h) (aX J)
       ·refine bc ?_;exact bE (K2 parts l3 c2 h) (aX J)
     ·skip
      refine d<|aQ jw fS bB J<|s (dB (D J) hI)<|bW h J (fun h=>?_) (fun h=>?_)
      ·refine aj<|Q J<|Q J<|aQ jw fS bB J<|bR h fun e4 q_e4 h=>s (eH uh cu (.tail _ (.head _)) (D J) (D J) q_e4)<|s (jP (r:=vG) (i:=e.A) (foff:=0) cu J J bC J (.tail _ (.head _)) q_e4 (D J))<|s (aI (r:=vG) (ys:=[e4]) (xs:=[.tmp 44]) uh cu J J J J J ⟨(D J),aZ⟩)<|bR h fun parts3 q_parts3 h=>bD cu J J J J uh J J (D J) (D J) q_parts3 fun l7 c6=>d6 J<|aJ<|am ?_;exact bE (K1 parts3 l7 c6 h) (aX J)
      ·refine bc<|am ?_;exact bE (K1 V9 none 0 h) (aX J)
    ·refine bc ?_;exact bE (h2 t ([]) h) (aX J)

end Go.Proofs.YtdohlidddcgfjaaGreat

