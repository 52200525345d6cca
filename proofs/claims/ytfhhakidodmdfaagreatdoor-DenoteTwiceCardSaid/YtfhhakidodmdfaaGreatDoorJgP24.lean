/- cP of this claim: P24. -/
import Derived.Test.YtfhhakidodmdfaaGreatDoorJgT
import Derived.Test.YtfhhakidodmdfaaGreatDoorJgP23
set_option linter.all false
namespace Go.Proofs.YtfhhakidodmdfaaGreatDoor
open Go
set_option maxRecDepth 100000

theorem Yr(s1:(List (List ac)))(s2:(List (List ac)))(eq:((List ac)→(List ac)→Option Bool)){R:Bool}(h:dY s1 s2 eq=some R):aX aQ 92 [ca (cY) s1,ca (cY) s2,(dX aQ D9 nH (fun(x:(List ac)×(List ac))=>eq x.1 x.2))] (iR R):=by
 refine aX.of Tryz.func92 J J J fun w0 S0=>aw<|zo J (jL)<|av<|ah<|aw<|aG J<|zo J (jg jF J)<|aG J<|zo J (jg jF J)<|zo J (fe (ht J) (ht J))<|av<|cU h J (fun h=>?_) (fun h=>?_)
 ·refine aw<|zo J (jL)<|av<|am<|ae ?_;cases so h;exact aJ J J
 ·refine dS<|ah<|aw<|aG J<|zo J (jg jF J)<|zo J (bI hI)<|av<|aA<|be (k:=15) J fun hN=>bL ?_;refine aU (eI (Z:=fun ls i=>(s1.drop i=ls)∧bZ s2 eq ls i=some R) (Of:=fun _ i=>[]) (Gf:=fun _ i=>[(1,ca (cY) s2),(2,(dX aQ D9 nH (fun(x:(List ac)×(List ac))=>eq x.1 x.2))),(15,ca (cY) s1),(16,jz s1),(17,bM (i:Int))]) (fun i h=>?_) (fun e tl ih i h=>?_) s1 0 ⟨J,h⟩) (bu J)
  ·obtain⟨hx,h⟩:=h
   refine aB<|aw<|zo J (fM J J)<|av<|ah<|bz (ht J) (du hx)<|bv ?_;refine ai (ai (aO ?_));refine ax<|aw<|zo rfl (jL)<|av<|am ?_;cases so h;exact aJ J J
  ·obtain⟨hx,h⟩:=h
   refine aB<|aw<|zo J (fM J J)<|av<|ah<|bw (ht J) (di hx)<|dS<|ah<|aA<|aw<|aG J<|zo J (my jF dW J J J (da hx))<|zo J (bB dW J J)<|bp J<|bp J<|av<|aw<|aG J ?_;refine aG J<|bC h fun e1 q_e1 h=>zo J (my jF dW J J J q_e1)<|zo J (bB dW J J)<|bp J<|av<|aw<|aG J<|aG J<|aG J<|bC h fun r q_r h=>zo J (gZ (args:=Tw) (res:=HS) (f:=(fun(x:(List ac)×(List ac))=>eq x.1 x.2)) (x:=((e,e1):(List ac)×(List ac))) (ht J) q_r ⟨(ht J),(ht J),aT⟩)<|zo J (gh (ht J))<|av<|cU h J (fun h=>?_) (fun h=>?_)
   ·refine aw<|zo J (jL)<|av<|am ?_;refine aD (ae (ae (aD (ae ?_))));cases so h;exact aJ J J
   ·refine bA<|aq<|ax<|au<|zo rfl (mz (cM hx hN) rfl)<|aG rfl<|aP ?_;exact bm (aU (ih (i+1) ⟨cL hx,h⟩) (bu J))

theorem YB(a1:(List (List ac)))(b:(List (List ac))){R:Bool}(h:A3 a1 b=some R):aX aQ 36 [ca (cY) a1,ca (cY) b] (iR R):=by
 refine aX.of Tryz.func36 J J J fun w0 S0=>aw<|zo J (jL)<|av<|aw<|aG J<|aG J<|bC h fun r q_r h=>zo J (aC acE (Yr _ _ _ q_r) ⟨(ht J),(ht J),(zC Y5 fun x y h=>Nc _ _ h),aT⟩)<|bp J<|av<|am ?_;cases so h;exact aJ J J

theorem Yq(n:aj)(l:(List bc)){R:bc×Int}(h:wk n l=some R):aX aQ 96 [tD aF n,ca (bP) l] (tT [tD bP R.1,bM R.2]):=by
 refine aX.of Tryz.func96 J J J fun w0 S0=>aw<|wE (ht J) J fun b=>aW (r:=bP) (x:=wW) hY (fun _=>kZ _) J fun b1=>zo J (cD)<|av<|aw<|zo J (jN 1 ju J J J)<|bF<|ap cx J v7 J (ht J) hI<|zo J (jN 2 qm J J J)<|ap cx J td J (ht J) hI<|av<|aw<|bQ true aF 71<|aW (r:=lx) (x:=mN wW (aR none 0 (To.length))) hY D6 J fun b2=>av<|ah ?_;refine aw<|aG J<|zo J (jg Tryz.underlying202 J)<|zo J (bI hI)<|av<|aA<|be (k:=18) J fun hN=>bL<|hU<|hU<|nG<|nG ?_;refine aU (yh (Z:=fun ls i n1 x out l1 c=>(l.drop i=ls)∧ij ls i n1 x out=some R) (Of:=fun _ i n1 x out l1 c=>[bx aF 71 b n1,bx bP 24 b1 x,bx lx 24 b2 (mN out (aR l1 c out.Nodes.length)),dT aF 71 l1 c out.Nodes]) (Gf:=fun _ i n1 x out l1 c=>[(2,tV (aN b 0)),(4,tV (aN b1 0)),(6,tV (aN b2 0)),(18,ca (bP) l),(19,jz l),(20,bM (i:Int))]) (fun i n1 x out l1 c h=>?_) (fun e tl ih i n1 x out l1 c h=>?_) l 0 (aj.mk n.Op s6 s6 n.Table n.Kinds n.Left n.Cond n.Keys n.Aggs n.Items n.Order n.Limit) wW ({wW with Nodes:=To}:bc) none 0 ⟨J,h⟩) (bu J)
 ·obtain⟨hx,h⟩:=h
  refine aB<|aw<|zo J (fM J J)<|av<|ah<|bz (ht J) (du hx)<|bv ?_;refine ai (ai (aO ?_));refine ax<|ah<|bC h fun r q_r h=>?_
  refine qw 5 (ts:=[tV (aN b2 0),tO aF l1 c out.Nodes,tD aF n1,tD aF r,ca (aF) ([r])]) mixed J J J
   ⟨eM 6 J J J (jN 0 lZ J J J),
   ⟨bY 66 0 J J J (sO vc oI (.tail _ (.tail _ (.head _))) (.tail _ (.tail _ (.tail _ (.head _)))) J (ht J)),
   ⟨eM 2 J J J (cg fK J J bT (.head _) (ht J)),
   ⟨bY 68 2 J J J (aC SP (I5 _ _ q_r) ⟨(ht J),hI,aT⟩),
   ⟨bY 69 3 J J J (aS (r:=aF) (ys:=[r]) (xs:=[.tmp 69]) qE fK J J J J J ⟨(ht J),aT⟩),
   aT⟩⟩⟩⟩⟩ ?_
  refine kq<|bC h fun l2 q_l2 h=>As fK J J J J qE J J (ht J) (ht J) q_l2 fun l3 c1=>zo J (jN 0 lZ J J J)<|kq<|tW vc J (nV _ _ _) J (ht J) (PZ (H5 (ht J)))<|av<|ah<|aw<|bF<|zo J (wj (q:=bP) (y:=({out with Nodes:=l2}:bc)) hY J J J J (.tail _ (.head _)) (fun _ _ _ ho h=>r0 (Bc ho (.head _)) h) (ht J))<|bC h fun r1 q_r1 h=>zo J (aC V5 (IU _ q_r1) ⟨(ht J),aT⟩)<|aG J<|zo J (gp J J)<|zo J (gp J J)<|bp J<|bp J<|av<|aw ?_;refine aG J<|zo J (s4 J)<|av<|cU h J (fun h=>?_) (fun h=>?_)
  ·refine aw<|zo J (bU (y:=wW) hY RV kZ (J))<|aG J<|kq<|ap hY J an J (ht J) (ht J)<|bp J<|av<|am<|ae<|bk 4 J<|ba<|ba<|ba ?_;cases so h;exact bR J J ⟨bq hY J J J,aZ J,aT⟩
  ·refine dS<|aw<|zo J (wj (q:=bP) (y:=({out with Nodes:=l2}:bc)) hY J J J J (.tail _ (.head _)) (fun _ _ _ ho h=>r0 (Bc ho (.head _)) h) (ht J))<|kq<|ap hY J an J (ht J) (ht J)<|zo J (cD)<|av<|am<|bk 4 J<|ba<|ba<|ba ?_;cases so h;exact bR J J ⟨bq hY J J J,aZ J,aT⟩
 ·obtain⟨hx,h⟩:=h
  refine aB<|aw<|zo J (fM J J)<|av<|ah<|bw (ht J) (di hx)<|dS<|ah<|aA<|aw<|aG J<|zo J (my Tryz.underlying202 hY J J J (da hx))<|zo J (bB hY J J)<|aW (r:=bP) (x:=wW) hY (fun _=>kZ _) J fun b3=>bp J<|ap hY J an J (ht J) (ht J)<|aV 8 J<|av<|ah ?_;refine aw<|zo J (bB hY J J)<|bC h fun r2 q_r2 h=>zo J (aC V5 (IU _ q_r2) ⟨(ht J),aT⟩)<|aG J<|zo J (gp J J)<|zo J (gp J J)<|bp J<|bp J<|av<|aw<|aG J<|zo J (s4 J)<|av<|cU h J (fun h=>?_) (fun h=>?_)
  ·refine aw<|zo J (bU (y:=wW) hY RV kZ (J))<|aG J<|bF<|ap hY J an J (ht J) (ht J)<|bp J<|av<|am ?_;refine ae (aD (ae (ae (aD (ae ?_)))));refine bk 4 J<|ba<|ba<|ba ?_;cases so h;exact bR J J ⟨bq hY J J J,aZ J,aT⟩
  ·refine dS<|aw<|zo J (jN 0 lZ J J J)<|zo J (sO vc oI (.tail _ (.tail _ (.head _))) (.tail _ (.tail _ (.tail _ (.head _)))) J (ht J))<|zo J (cW qE (kz (ht J)))<|bp J<|av<|ah<|aw<|zo J (df lZ kH J J)<|zo J (bB vc J J)<|zo J (jg qE J)<|zo J (bI hI)<|av<|aA<|be (k:=38) J fun hN1=>bL ?_;refine aU (jW (Z:=fun ls1 i1 out1 l4 c2=>(e.Nodes.drop i1=ls1)∧nu (ij tl) i n1 x out ls1 out1=some R) (Of:=fun _ i1 out1 l4 c2=>[bx aF 71 b n1,bx bP 24 b1 x,bx lx 24 b2 (mN out1 (aR l4 c2 out1.Nodes.length)),dT aF 71 l4 c2 out1.Nodes]) (Gf:=fun _ i1 out1 l4 c2=>[(2,tV (aN b 0)),(4,tV (aN b1 0)),(6,tV (aN b2 0)),(7,bM (i:Int)),(11,jz out.Nodes),(18,ca (bP) l),(19,jz l),(20,bM (i:Int)),(38,ca (aF) e.Nodes),(39,jz e.Nodes),(40,bM (i1:Int))]) (fun i1 out1 l4 c2 h=>?_) (fun e1 tl1 ih1 i1 out1 l4 c2 h=>?_) e.Nodes 0 out l1 c ⟨J,h⟩) (bu J)
   ·obtain⟨hx1,h⟩:=h
    refine aB<|aw<|zo J (fM J J)<|av<|ah<|bz (ht J) (du hx1)<|bv ?_;refine ai (ai (aO ?_));refine ax<|aw<|aG rfl<|zo rfl (nI rfl)<|av<|cU h rfl (fun h=>?_) (fun h=>?_)
    ·refine au<|zo J (jN 0 lZ J J J)<|zo J (sO vc oI (.tail _ (.tail _ (.head _))) (.tail _ (.tail _ (.tail _ (.head _)))) J (ht J))<|zo J (cW qE (kz (ht J)))<|zo J (iQ (ht J) hI)<|zo J (jN 1 ju J J J)<|ap cx J v7 J (ht J) (ht J)<|aP<|aq<|ax<|au<|zo rfl (mz (cM hx hN) rfl)<|aG rfl<|aP ?_;exact bm (aU (ih (i+1) (aj.mk n1.Op (IntKind.i64.wrap ((out1.Nodes.length:Int)-(1:Int))) n1.B n1.Table n1.Kinds n1.Left n1.Cond n1.Keys n1.Aggs n1.Items n1.Order n1.Limit) x out1 l4 c2 ⟨cL hx,h⟩) (bu J))
    ·refine au<|zo J (jN 0 lZ J J J)<|zo J (sO vc oI (.tail _ (.tail _ (.head _))) (.tail _ (.tail _ (.tail _ (.head _)))) J (ht J))<|zo J (cW qE (kz (ht J)))<|zo J (iQ (ht J) hI)<|zo J (jN 2 qm J J J)<|ap cx J td J (ht J) (ht J)<|aP<|aq<|ax<|au<|zo rfl (mz (cM hx hN) rfl)<|aG rfl<|aP ?_;exact bm (aU (ih (i+1) (aj.mk n1.Op n1.A (IntKind.i64.wrap ((out1.Nodes.length:Int)-(1:Int))) n1.Table n1.Kinds n1.Left n1.Cond n1.Keys n1.Aggs n1.Items n1.Order n1.Limit) x out1 l4 c2 ⟨cL hx,h⟩) (bu J))
   ·obtain⟨hx1,h⟩:=h
    refine aB<|aw<|zo J (fM J J)<|av<|ah<|bw (ht J) (di hx1)<|dS<|ah<|aA<|aw<|zo J (my qE fK J J J (da hx1))<|zo J (bB fK J J)<|aW (r:=aF) (x:=HO) fK (fun _=>lK _) J fun b4=>ap fK J an J (ht J) (ht J)<|aV 13 J<|av<|bC h fun r3 q_r3 h=>?_
    refine qw 6 (ts:=[tV (aN b2 0),tO aF l4 c2 out1.Nodes,tD aF e1,jz out.Nodes,tD aF r3,ca (aF) ([r3])]) mixed J J J
     ⟨eM 6 J J J (jN 0 lZ J J J),
     ⟨bY 44 0 J J J (sO vc oI (.tail _ (.tail _ (.head _))) (.tail _ (.tail _ (.tail _ (.head _)))) J (ht J)),
     ⟨eM 13 J J J (bB fK J J),
     ⟨eM 11 J J J (dl J),
     ⟨d8 46 2 47 3 J J J J (aC SP (I5 _ _ q_r3) ⟨(ht J),(ht J),aT⟩),
     ⟨bY 48 4 J J J (aS (r:=aF) (ys:=[r3]) (xs:=[.tmp 48]) qE fK J J J J J ⟨(ht J),aT⟩),
     aT⟩⟩⟩⟩⟩⟩ ?_
    refine kq<|bC h fun l5 q_l5 h=>As fK J J J J qE J J (ht J) (ht J) q_l5 fun l6 c3=>zo J (jN 0 lZ J J J)<|kq<|tW vc J (nV _ _ _) J (ht J) (PZ (H5 (ht J)))<|aP<|aq<|ax<|au<|zo rfl (mz (cM hx1 hN1) rfl)<|aG rfl<|aP<|bD<|bD<|cA<|cA ?_;exact bm (aU (ih1 (i1+1) ({out1 with Nodes:=l5}:bc) l6 c3 ⟨cL hx1,h⟩) (bu J))

end Go.Proofs.YtfhhakidodmdfaaGreatDoor

