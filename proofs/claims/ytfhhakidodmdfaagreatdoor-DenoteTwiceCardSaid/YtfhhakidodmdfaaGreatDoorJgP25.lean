/- cP of this claim: P25. -/
import Derived.Test.YtfhhakidodmdfaaGreatDoorJgT
import Derived.Test.YtfhhakidodmdfaaGreatDoorJgP24
set_option linter.all false
namespace Go.Proofs.YtfhhakidodmdfaaGreatDoor
open Go
set_option maxRecDepth 100000

theorem R6(n:aj)(a1:bc)(b:bc){R:bc×Int}(h:vt n a1 b=some R):aX aQ 40 [tD aF n,tD bP a1,tD bP b] (tT [tD bP R.1,bM R.2]):=by
 refine aX.of Tryz.func40 J J J fun w0 S0=>aw<|zo J (jm J)<|zo J (jm J)<|zo J (jm J)<|aW (r:=bP) (x:=wW) hY (fun _=>kZ _) J fun b1=>zo J (cD)<|av<|aw<|zo J (bB fK J J)<|zo J (bB hY J J)<|zo J (bB hY J J)<|zo J (aS (r:=bP) (ys:=[a1,b]) (xs:=[.tmp 9,.tmp 10]) Tryz.underlying202 hY J J J J J ⟨(ht J),(ht J),aT⟩)<|bC h fun r q_r h=>zo J (aC acD (Yq _ _ q_r) ⟨(ht J),(ht J),aT⟩)<|zo J (gp J J)<|zo J (gp J J)<|ap hY J an J (ht J) (ht J)<|aV 6 J<|bp J<|aP ?_;refine ax<|am ?_;cases so h;exact bR J J ⟨bq hY J J J,aZ J,aT⟩

theorem YA(l:(List (List (List ac)))){R:(List (List ac))×Int}(h:yw l=some R):aX aQ 41 [ca (dO) l] (tT [ca (cY) R.1,bM R.2]):=by
 refine aX.of Tryz.func41 J J J fun w0 S0=>aw<|zo J (aM (show aI _ _ _ uN from jQ))<|zo J (cD)<|av<|ah<|aw<|aG J<|bC h fun r q_r h=>zo J (aC V3 (IR _ q_r) ⟨(ht J),aT⟩)<|bp J<|av<|aw<|aG J<|zo J (s4 J)<|av<|cU h J (fun h=>?_) (fun h=>?_)
 ·refine aw<|aG J<|zo J (aM (show aI _ _ _ uN from jQ))<|bp J<|av<|am<|ae ?_;cases so h;exact cC J J J
 ·refine dS<|aw<|aG J<|bC h fun r1 q_r1 h=>iy aaq (OB _ q_r1) ⟨(ht J),aT⟩ J fun l1 c=>jC<|iW 11 J<|bC h fun r2 q_r2 h=>zo J (aC aat (R5 _ q_r2) ⟨(kz (ht J)),aT⟩)<|zo J (gp J J)<|zo J (gp J J)<|bp J<|bp J<|av<|am<|ba ?_;cases so h;exact cC J J J

theorem Z8(l:bc)(b:dx){R:Bool}(h:nL l b=some R):aX aQ 9 [tD bP l,tD iS b] (iR R):=by
 refine aX.of Tryz.func9 J J J fun w0 S0=>aw<|zo J (jm J)<|zo J (jm J)<|zo J (jL)<|av<|ah<|aw<|bC h fun r q_r h=>zo J (aC ac4 (YT q_r) trivial)<|zo J (gh (ht J))<|av<|cU h J (fun h=>?_) (fun h=>?_)
 ·refine aw<|zo J (jL)<|av<|am<|ae ?_;cases so h;exact aJ J J
 ·refine dS<|ah<|aw<|zo J (bB Ek J J)<|bC h fun r1 q_r1 h=>zo J (aC ac3 (YS _ q_r1) ⟨(ht J),aT⟩)<|aG J<|bC h fun t q_t h=>gz J J (fun hg=>bB hY J J)<|gz J J (fun hg=>bB Ek J J) ?_
  obtain⟨r2,h1t,h0t⟩:=og q_t
  have q_r2g:=fun hb=>(h1t hb).1
  refine gz J J (fun hg=>aC ac2 (YR _ _ (q_r2g hg)) ⟨(bN J hg),(bN J hg),aT⟩)<|zo J (kG (ht J) (fun hb=>(bN J (Ae hb))) (fun hb=>(h1t hb).2) h0t)<|av<|cU h J (fun h=>?_) (fun h=>?_)
  ·refine aw<|zo J (jL)<|av<|am<|ae ?_;cases so h;exact aJ J J
  ·refine dS<|aw<|zo J (bB hY J J)<|zo J (bB Ek J J)<|bC h fun r3 q_r3 h=>zo J (aC V6 (I3 _ _ q_r3) ⟨(ht J),(ht J),aT⟩)<|aG J<|zo J (gp J J)<|zo J (gp J J)<|bp J<|bp J<|av<|ah<|aw<|aG J<|zo J (s4 J)<|aG J<|gz J J (fun hg=>dl J)<|gz J J (fun hg=>cW jF (bN J hg))<|gz J J (fun hg=>gv (bN J hg) hI) ?_;refine zo J (xo J J)<|av<|cU h J (fun h=>?_) (fun h=>?_)
   ·refine aw<|zo J (jL)<|av<|am<|ae ?_;cases so h;exact aJ J J
   ·refine dS ?_;refine sX (Z:=jt l b r3=some R) (Of:=[]) (Gf:=[(2,bK bP l),(3,bK iS b),(5,ca (cY) r3.1)]) (fun h=>?_) (fun K=>?_)
    ·skip
     refine aw<|zo J (bU (y:=LT) aH qk bj (⟨_,_,_,_,_,J,mD,J,hI,J⟩))<|zo J (bU (y:=XN) oW Z5 s0 (⟨_,_,_,_,_,J,Ex,J,hI,⟨_,_,_,_,_,J,Ew,J,hI,⟨_,_,_,_,_,J,Ev,J,hI,⟨_,_,_,_,_,J,Mm,J,(ht J),J⟩⟩⟩⟩))<|zo J (aS (r:=bJ) (ys:=[XN]) (xs:=[.tmp 78]) vP oW J J J J J ⟨(ht J),aT⟩)<|zo J (bU (y:=Xu) j3 Uv pX (⟨_,_,_,_,_,J,ve,J,(ht J),J⟩))<|aW (r:=cj) (x:=zQ) j3 (fun _=>pX _) J fun b1=>ap j3 J an J (ht J) (ht J)<|aV 13 J<|av<|ah<|aw<|zo J (Ch (r:=rB) (ys:=[false,true]) (xs:=[.const (.bool false),.const (.bool true)]) Tryz.underlying81 H4 J acj J J ⟨hB,hB,aT⟩)<|zo J (bI hI)<|av<|aA<|bL ?_;refine aU (Pm (Z:=fun k i=>(2-i=k)∧dG l b r3 k i=some R) (Of:=fun _ i=>[]) (Gf:=fun _ i=>[(2,bK bP l),(3,bK iS b),(5,ca (cY) r3.1),Xr,Xt,(82,bM (i:Int))]) (fun i h=>?_) (fun k1 ih i h=>?_) 2 0 ⟨J,h⟩) (bu J)
     ·obtain⟨hx,h⟩:=h
      refine aB<|aw<|zo J (gi (ht J) hI)<|av<|ah<|bz (ht J) (X8 hx)<|bv ?_;refine ai (ai (aO ?_));refine ax<|aw<|zo rfl (jL)<|av<|am ?_;cases so h;exact aJ J J
     ·obtain⟨hx,h⟩:=h
      refine aB<|aw<|zo J (gi (ht J) hI)<|av<|ah<|bw (ht J) (X7 hx)<|dS<|ah ?_;refine HI (Z:=od (dG l b r3 k1) i=some R) (Of:=[]) (Gf:=[(2,bK bP l),(3,bK iS b),(5,ca (cY) r3.1),Xr,Xt,(82,bM (i:Int))]) (fun h=>?_) (fun K1=>?_)
      ·skip
       refine ax<|au<|zo rfl (yE (Rv hx (by decide)) (ht rfl) hI)<|aG rfl<|aP ?_;exact bm (aU (ih (i+1) ⟨Ru hx,h⟩) (bu J))
      ·skip
       refine aw<|bC h fun e1 q_e1 h=>zo J (PN Tryz.underlying81 H4 J J (ht J) (ht J) q_e1)<|bp J<|av<|aw<|aG J<|zo J (bB j3 J J)<|zo J (bU (y:=(⟨(2:Int),(0:Int),(0:Int),(0:Int),[],e1,Xu,[],[],[],[],(0:Int)⟩:aj)) fK Uu lK (⟨_,_,_,_,_,J,wa,J,hI,⟨_,_,_,_,_,J,Eu,J,(ht J),⟨_,_,_,_,_,J,v6,J,(ht J),J⟩⟩⟩))<|zo J (bB hY J J)<|zo J (bB hY J J)<|bC h fun r4 q_r4 h=>zo J (aC aau (R6 _ _ _ q_r4) ⟨(ht J),(ht J),(ht J),aT⟩)<|aG J<|zo J (gp J J)<|zo J (gp J J)<|aW (r:=bP) (x:=wW) hY (fun _=>kZ _) J fun b2=>ap hY J an J (ht J) (ht J)<|aV 16 J<|bp J<|aP ?_;refine ax<|ah<|aw<|aG rfl<|zo rfl (s4 rfl)<|av<|cU h rfl (fun h=>?_) (fun h=>?_)
       ·refine bv ?_;refine ai (aO ?_);exact cw (K1 h) (bu J)
       ·refine dS<|aw<|zo J (bB hY J J)<|zo J (bB Ek J J)<|bC h fun r5 q_r5 h=>zo J (aC V6 (I3 _ _ q_r5) ⟨(ht J),(ht J),aT⟩)<|aG J<|zo J (gp J J)<|zo J (gp J J)<|bp J<|bp J<|av<|aw<|zo J (cD)<|av ?_;refine kw (Z:=fun want=>lr (dG l b r3 k1) i r5 want=some R) (Of:=fun want=>[]) (Gf:=fun want=>[(2,bK bP l),(3,bK iS b),(5,ca (cY) r3.1),Xr,(18,ca (cY) r5.1),(19,bM r5.2),(20,bM want),Xt,(82,bM (i:Int))]) (fun want h=>?_) (fun K2=>?_)
        ·skip
         refine aw<|aG J<|zo J (s4 J)<|aG J<|gz J J (fun hg=>dl J)<|gz J J (fun hg=>cW jF (bN J hg))<|gz J J (fun hg=>dl J)<|gz J J (fun hg=>fe (bN J hg) (bN J hg))<|zo J (xo J J)<|av<|cU h J (fun h=>?_) (fun h=>?_)
         ·refine aw<|zo J (jL)<|av<|am ?_;refine aD (ae (ae (aD (ae ?_))));cases so h;exact aJ J J
         ·refine bA<|aq ?_;exact cw (K1 h) (bu J)
        ·skip
         refine aw<|aG J<|av<|cU h J (fun h=>?_) (fun h=>?_)
         ·refine au<|aG J<|zo J (jg jF J)<|bp J<|aP ?_;exact cw (K2 (r3.1.length:Int) h) (bu J)
         ·refine bA ?_;exact cw (K2 (0:Int) h) (bu J)
    ·skip
     refine aw<|zo J (bU (y:=(⟨(7:Int),(0:Int),(0:Int),(0:Int),[],false,zQ,[],[],[],[],(0:Int)⟩:aj)) fK Uu lK (⟨_,_,_,_,_,J,wa,J,hI,J⟩))<|zo J (bB hY J J)<|zo J (bB hY J J)<|bC h fun r6 q_r6 h=>zo J (aC aau (R6 _ _ _ q_r6) ⟨(ht J),(ht J),(ht J),aT⟩)<|aG J<|zo J (gp J J)<|zo J (gp J J)<|aW (r:=bP) (x:=wW) hY (fun _=>kZ _) J fun b3=>ap hY J an J (ht J) (ht J)<|aV 7 J<|bp J<|av<|aw<|aG J<|zo J (nI J)<|av<|cU h J (fun h=>?_) (fun h=>?_)
     ·refine aw<|zo J (bB hY J J)<|zo J (bB Ek J J)<|bC h fun r7 q_r7 h=>zo J (aC V6 (I3 _ _ q_r7) ⟨(ht J),(ht J),aT⟩)<|aG J<|zo J (gp J J)<|zo J (gp J J)<|bp J<|bp J<|av<|aw<|aG J<|aG J<|zo J (aS (r:=dO) (ys:=[r3.1,r3.1]) (xs:=[.tmp 59,.tmp 60]) oA gF J J J J J ⟨(ht J),(ht J),aT⟩)<|bC h fun r8 q_r8 h=>zo J (aC acX (YA _ q_r8) ⟨(ht J),aT⟩)<|aG J<|zo J (gp J J)<|zo J (gp J J)<|bp J ?_;refine bp J<|av<|aw<|aG J<|zo J (s4 J)<|aG J<|gz J J (fun hg=>dl J)<|gz J J (fun hg=>fe (bN J hg) hI)<|zo J (xo J J)<|aG J<|bC h fun t1 q_t1 h=>gz J J (fun hg=>dl J)<|gz J J (fun hg=>dl J) ?_
      obtain⟨r9,h1t1,h0t1⟩:=og q_t1
      have q_r9g:=fun hb=>(h1t1 hb).1
      refine gz J J (fun hg=>aC acY (YB _ _ (q_r9g hg)) ⟨(bN J hg),(bN J hg),aT⟩)<|gz J J (fun hg=>gh (bN J hg))<|zo J (kG (ht J) (fun hb=>(bN J (Ae hb))) (fun hb=>(h1t1 hb).2) h0t1)<|av<|cU h J (fun h=>?_) (fun h=>?_)
      ·refine aw<|zo J (jL)<|av<|am<|ae ?_;cases so h;exact aJ J J
      ·refine bA ?_;exact cw (K h) (bu J)
     ·refine bA ?_;exact cw (K h) (bu J)

end Go.Proofs.YtfhhakidodmdfaaGreatDoor

