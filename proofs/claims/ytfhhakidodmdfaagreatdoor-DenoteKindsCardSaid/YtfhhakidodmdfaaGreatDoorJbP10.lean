/- db of this claim: P10. -/
import Derived.Test.YtfhhakidodmdfaaGreatDoorJbT
import Derived.Test.YtfhhakidodmdfaaGreatDoorJbP9
set_option linter.all false
namespace Go.Proofs.YtfhhakidodmdfaaGreatDoor
open Go
set_option maxRecDepth 100000

theorem KD(l:(List (List ac))){R:(List (List ac))}(h:sP l=some R):f9 aO 174 [ca (dj) l] false dj 43 R:=by
 refine f9.of Tryz.func174 J J J fun w0 S0=>au<|bQ false dj 43<|zo J (aL s9)<|aq<|au<|bQ false dj 43<|zo J (aL s9)<|aq<|ah<|au<|aF J<|zo J (iM jW J)<|zo J (bD hI)<|aq<|ay<|ba (k:=6) J fun hN=>bI ?_;refine jb<|qY ?_;refine aS (kE (Z:=fun ls i out l1 c=>(l.drop i=ls)∧na ls out=some R) (Of:=fun _ i out l1 c=>[fx dj 43 l1 c out]) (Gf:=fun _ i out l1 c=>[(3,rL l1 c out),(6,ca (dj) l),(7,jk l),(8,bM (i:Int))]) (fun i out l1 c h=>?_) (fun e tl ih i out l1 c h=>?_) l 0 Hr none 0 ⟨J,h⟩) (bv J)
 ·obtain⟨hx,h⟩:=h
  refine aC<|au<|zo J (fD J J)<|aq<|ah<|bz (ht J) (di hx)<|bu ?_;refine ai (ai (aN ?_));refine aw<|au<|aF rfl<|bp rfl<|aq<|ak ?_;cases so h;exact gm J J
 ·obtain⟨hx,h⟩:=h
  refine aC<|au<|zo J (fD J J)<|aq<|ah<|bw (ht J) (dg hx)<|dS<|ah<|ay<|au<|zo J (lX jW d3 J J J (cS hx))<|zo J (bB d3 J J)<|bp J<|aq<|av<|aF J<|aF J<|bC h fun r q_r h=>iR Sw (E3 _ q_r) ⟨(ht J),aT⟩ J fun l2 c1=>?_;refine kj<|jx 14 J<|zo J (aV (r:=dj) (ys:=[r]) (xs:=[.tmp 14]) jW d3 J J J J J ⟨(lk (ht J)),aT⟩)<|bL<|bC h fun out1 q_out1 h=>cV d3 J J J J jW J J (ht J) (ht J) q_out1 fun l3 c2=>bp J<|aQ<|ap<|aw<|av<|zo rfl (lY (cA hx hN) rfl)<|aF rfl<|aQ<|bF<|bm ?_;exact bf (aS (ih (i+1) out1 l3 c2 ⟨cz hx,h⟩) (bv J))
theorem RX(r:(List ac))(columns:(List Int)){R:(List ac)}(h:nJ r columns=some R):f9 aO 177 [ca (af) r,lW columns] false af 46 R:=by
 refine f9.of Tryz.func177 J J J fun w0 S0=>au<|bQ false af 46<|zo J (aL s9)<|aq<|au<|bQ false af 46<|zo J (aL s9)<|aq<|ah<|au<|aF J<|zo J (iM gM J)<|zo J (bD hI)<|aq<|ay<|ba (k:=8) J fun hN=>bI ?_;refine jb<|qY ?_;refine aS (kE (Z:=fun ls i out l c=>(columns.drop i=ls)∧mb r ls out=some R) (Of:=fun _ i out l c=>[fx af 46 l c out]) (Gf:=fun _ i out l c=>[(0,ca (af) r),(5,rL l c out),(8,lW columns),(9,jk columns),(10,bM (i:Int))]) (fun i out l c h=>?_) (fun e tl ih i out l c h=>?_) columns 0 Hq none 0 ⟨J,h⟩) (bv J)
 ·obtain⟨hx,h⟩:=h
  refine aC<|au<|zo J (fD J J)<|aq<|ah<|bz (ht J) (di hx)<|bu ?_;refine ai (ai (aN ?_));refine aw<|au<|aF rfl<|bp rfl<|aq<|ak ?_;cases so h;exact gm J J
 ·obtain⟨hx,h⟩:=h
  refine aC<|au<|zo J (fD J J)<|aq<|ah<|bw (ht J) (dg hx)<|dS<|ah<|ay<|au<|zo J (lX gM cr J J J (cS hx))<|zo J (bB cr J J)<|bp J<|aq<|av<|aF J<|aF J<|aF J<|bC h fun e1 q_e1 h=>?_;refine zo J (lX iK aH J J J q_e1)<|zo J (bB aH J J)<|zo J (aV (r:=af) (ys:=[e1]) (xs:=[.tmp 18]) iK aH J J J J J ⟨(ht J),aT⟩)<|bC h fun out1 q_out1 h=>cV aH J J J J iK J J (ht J) (ht J) q_out1 fun l1 c1=>bp J<|aQ<|ap<|aw<|av<|zo rfl (lY (cA hx hN) rfl)<|aF rfl<|aQ ?_;exact bf (aS (ih (i+1) out1 l1 c1 ⟨cz hx,h⟩) (bv J))
theorem AZ(r:(List ac))(columns:(List Int)){R:(List ac)}(h:nJ r columns=some R):aU aO 177 [ca (af) r,lW columns] (ca (af) R):=(RX _ _ h).spec

theorem Va(columns:(List Int))(a1:(List ac))(b:(List ac)){R:Int}(h:ml columns a1 b=some R):aU aO 175 [ca (af) a1,ca (af) b,bO nw columns] (bM R):=by
 refine aU.of Tryz.func175 J J J fun w0 S0=>au<|zo J (cw)<|aq<|ah<|bC h fun r q_r h=>bC h fun r1 q_r1 h=>bC h fun r2 q_r2 h=>bC h fun r3 q_r3 h=>bC h fun r4 q_r4 h=>?_
 refine cU (ts:=[_,_,_,_,_,_,_,_,_,_,_,_,_]) mixed J J
  ⟨fd 0 J J J (dA J),
  ⟨fd 2 J J J (bB d9 J J),
  ⟨d8 6 0 7 1 J J J J (aD KN (AZ _ _ q_r) ⟨(ht J),(ht J),aT⟩),
  ⟨fd 1 J J J (dA J),
  ⟨fd 2 J J J (bB d9 J J),
  ⟨d8 9 3 10 4 J J J J (aD KN (AZ _ _ q_r1) ⟨(ht J),(ht J),aT⟩),
  ⟨d8 8 2 11 5 J J J J (aD VI (Im _ _ q_r2) ⟨(ht J),(ht J),aT⟩),
  ⟨fd 0 J J J (dA J),
  ⟨fd 1 J J J (dA J),
  ⟨d8 13 7 14 8 J J J J (aD VI (Im _ _ q_r3) ⟨(ht J),(ht J),aT⟩),
  ⟨d8 12 6 15 9 J J J J (aV (r:=bX) (ys:=[r2,r3]) (xs:=[.tmp 12,.tmp 15]) gM cr J J J J J ⟨(ht J),(ht J),aT⟩),
  ⟨bW 16 10 J J J (aD Sq (Iy _ q_r4) ⟨(ht J),aT⟩),
  ⟨bW 17 11 J J J (uM J),
  aT⟩⟩⟩⟩⟩⟩⟩⟩⟩⟩⟩⟩⟩ ?_
 refine aw<|ak ?_;cases so h;exact aG J J

theorem Vi(s1:(List ac))(s2:(List ac)){R:Bool}(h:iX s1 s2=some R):aU aO 157 [ca (af) s1,ca (af) s2] (ig R):=by
 refine aU.of Tryz.func157 J J J fun w0 S0=>au<|zo J (jj)<|aq<|ah<|au<|aF J<|zo J (iM iK J)<|aF J<|zo J (iM iK J)<|zo J (fj (ht J) (ht J))<|aq<|c9 h J (fun h=>?_) (fun h=>?_)
 ·refine au<|zo J (jj)<|aq<|ak<|ae ?_;cases so h;exact aG J J
 ·refine dS<|ah<|au<|aF J<|zo J (iM iK J)<|zo J (bD hI)<|aq<|ay<|ba (k:=11) J fun hN=>bI ?_;refine aS (dQ (Z:=fun ls i=>(s1.drop i=ls)∧dU s2 ls i=some R) (Of:=fun _ i=>[]) (Gf:=fun _ i=>[(0,ca (af) s1),(1,ca (af) s2),(12,jk s1),(13,bM (i:Int))]) (fun i h=>?_) (fun e tl ih i h=>?_) s1 0 ⟨J,h⟩) (bv J)
  ·obtain⟨hx,h⟩:=h
   refine aC<|au<|zo J (fD J J)<|aq<|ah<|bz (ht J) (di hx)<|bu ?_;refine ai (ai (aN ?_));refine aw<|au<|zo rfl (jj)<|aq<|ak ?_;cases so h;exact aG J J
  ·obtain⟨hx,h⟩:=h
   refine aC<|au<|zo J (fD J J)<|aq<|ah<|bw (ht J) (dg hx)<|dS<|ah<|ay<|au<|aF J<|bp J<|aq<|ah<|bC h fun e1 q_e1 h=>?_
   refine cU (ts:=[_,_,_,_,_,_,_,_,_]) mixed J J
    ⟨fd 0 J J J (dA J),
    ⟨fd 5 J J J (dA J),
    ⟨d8 16 0 17 1 J J J J (lX iK aH J J J (cS hx)),
    ⟨bW 18 2 J J J (bB aH J J),
    ⟨fd 1 J J J (dA J),
    ⟨fd 5 J J J (dA J),
    ⟨d8 20 4 21 5 J J J J (lX iK aH J J J q_e1),
    ⟨bW 22 6 J J J (bB aH J J),
    ⟨d8 19 3 23 7 J J J J (H3 PH (ht J) (ht J)),
    aT⟩⟩⟩⟩⟩⟩⟩⟩⟩ ?_
   refine aw<|c9 h rfl (fun h=>?_) (fun h=>?_)
   ·refine au<|zo J (jj)<|aq<|ak ?_;refine aA (ae (ae (aA (ae ?_))));cases so h;exact aG J J
   ·refine bA<|ap<|aw<|av<|zo rfl (lY (cA hx hN) rfl)<|aF rfl<|aQ ?_;exact bf (aS (ih (i+1) ⟨cz hx,h⟩) (bv J))

theorem RI(a1:(List ac))(b:(List ac)){R:Bool}(h:pm a1 b=some R):aU aO 93 [ca (af) a1,ca (af) b] (ig R):=by
 refine aU.of Tryz.func93 J J J fun w0 S0=>au<|zo J (jj)<|aq<|au<|aF J<|aF J<|bC h fun r q_r h=>zo J (aD abw (Vi _ _ q_r) ⟨(ht J),(ht J),aT⟩)<|bp J<|aq<|ak ?_;cases so h;exact aG J J

theorem U9(columns:(List Int))(a1:(List ac))(b:(List ac)){R:Bool}(h:ge columns a1 b=some R):aU aO 178 [ca (af) a1,ca (af) b,bO nw columns] (ig R):=by
 refine aU.of Tryz.func178 J J J fun w0 S0=>au<|zo J (jj)<|aq<|ah<|bC h fun r q_r h=>bC h fun r1 q_r1 h=>bC h fun r2 q_r2 h=>?_
 refine cU (ts:=[_,_,_,_,_,_,_,_]) mixed J J
  ⟨fd 0 J J J (dA J),
  ⟨fd 2 J J J (bB d9 J J),
  ⟨d8 6 0 7 1 J J J J (aD KN (AZ _ _ q_r) ⟨(ht J),(ht J),aT⟩),
  ⟨fd 1 J J J (dA J),
  ⟨fd 2 J J J (bB d9 J J),
  ⟨d8 9 3 10 4 J J J J (aD KN (AZ _ _ q_r1) ⟨(ht J),(ht J),aT⟩),
  ⟨d8 8 2 11 5 J J J J (aD Z3 (RI _ _ q_r2) ⟨(ht J),(ht J),aT⟩),
  ⟨bW 12 6 J J J (uM J),
  aT⟩⟩⟩⟩⟩⟩⟩⟩ ?_
 refine aw<|ak ?_;cases so h;exact aG J J

theorem UP(l:(List (List ac)))(alike:((List ac)→(List ac)→Option Bool))(b:Nat):z6 aO 260 (fun(x:(List (List ac)))=>[ca (dj) x]) (fun _=>vG l alike) [bx dT 32 b l] [tV (aP b 0),bO (rT ((dn aO FJ ko (fun(x:(List ac)×(List ac))=>alike x.1 x.2)))) ()]:=by
 refine z6.of Tryz.func260 J J J fun Sg yld s R h I yv hy e he w0 S0 B hB=>?_
 replace h:vG l alike yld s=some R:=h
 refine ay<|bI<|jb ?_;refine aS (OT (Z:=fun n e1 s1 x=>I s1 e1∧jY alike yld n s1 x=some R) (Of:=fun e1 s1 x=>[bx dT 32 b x,e1]) (Gf:=fun e1 s1 x=>[(0,tV yv),(1,tV (aP b 0)),(2,bO (rT ((dn aO FJ ko (fun(x:(List ac)×(List ac))=>alike x.1 x.2)))) ())]) (fun e1 s1 x h=>nn h.2) (fun n ih e1 s1 x h=>?_) gX e s l ⟨he,h⟩) (bv J);refine aC ?_
 obtain⟨he1,h⟩:=h
 refine ah<|au<|zo J (cd gF J J bS (.head _) (ht J))<|zo J (iM jW J)<|zo J (gu (ht J) hI)<|aq<|c9 h J (fun h=>?_) (fun h=>?_)
 ·refine dS<|ay<|au<|zo J (cw)<|aq<|ah<|ay<|bI ?_;refine aS (OU (Z:=fun n2 n1=>m9 alike yld (jY alike yld n) s1 x n2 n1=some R) (Of:=fun n1=>[bx dT 32 b x,e1]) (Gf:=fun n1=>[(0,tV yv),(1,tV (aP b 0)),(2,bO (rT ((dn aO FJ ko (fun(x:(List ac)×(List ac))=>alike x.1 x.2)))) ()),(4,bM n1)]) (fun n1 h=>nn h) (fun n2 ih1 n1 h=>?_) gX (1:Int) h) (bv J);refine aC<|ah<|ah<|bC h fun t q_t h=>?_
  obtain⟨e2,h1t,h0t⟩:=og q_t
  have q_e2g:=fun hb=>(h1t hb).1
  obtain⟨e3,h1t⟩:=XF (fun hb=>(h1t hb).2)
  have q_e3g:=fun hb=>(h1t hb).1
  obtain⟨r,h1t⟩:=XF (fun hb=>(h1t hb).2)
  have q_rg:=fun hb=>(h1t hb).1
  refine cU (ts:=[_,_,_,_,_,_,_,_,_,_,_,_,_,_,_]) mixed J J
   ⟨fd 4 J J J (dA J),
   ⟨fd 1 J J J (cd gF J J bS (.head _) (ht J)),
   ⟨bW 9 1 J J J (iM jW J),
   ⟨d8 8 0 10 2 J J J J (fD J J),
   ⟨bW 11 3 J J J (dA J),
   ⟨q5 2 12 4 J J J J (dY J J J J (fun hg=>pV Zf (ht J))),
   ⟨q5 1 12 4 J J J J (dY J J J J (fun hg=>cd gF J J bS (.head _) (ht J))),
   ⟨lh 14 6 12 4 J J J J (dY J J J J (fun hg=>bq jW d3 J (bK J hg) hI (q_e2g hg))),
   ⟨lh 15 7 12 4 J J J J (dY J J J J (fun hg=>bJ d3 J J (bK J hg))),
   ⟨q5 1 12 4 J J J J (dY J J J J (fun hg=>cd gF J J bS (.head _) (ht J))),
   ⟨q5 4 12 4 J J J J (dY J J J J (fun hg=>dA J)),
   ⟨tK 17 9 18 10 12 4 J J J J J (dY J J J J (fun hg=>bq jW d3 J (bK J hg) (bK J hg) (q_e3g hg))),
   ⟨lh 19 11 12 4 J J J J (dY J J J J (fun hg=>bJ d3 J J (bK J hg))),
   ⟨⟨[⟨13,_,some 5⟩,⟨16,_,some 8⟩,⟨20,_,some 12⟩,⟨12,_,some 4⟩],_,J,⟨J,J,J,J,aT⟩,J,J,dY J J J J (fun hg=>fJ (args:=WZ) (res:=Bz) (f:=(fun(x:(List ac)×(List ac))=>alike x.1 x.2)) (x:=((e2,e3):(List ac)×(List ac))) (bK J hg) (q_rg hg) ⟨(bK J hg),(bK J hg),aT⟩)⟩,
   ⟨d8 12 4 21 13 J J J J (d4 (ht J) (fun hb=>(bK J hb)) (fun hb=>(h1t hb).2) h0t),
   aT⟩⟩⟩⟩⟩⟩⟩⟩⟩⟩⟩⟩⟩⟩⟩ ?_
  refine aw<|c9 h rfl (fun h=>?_) (fun h=>?_)
  ·refine dS<|ay<|av<|aF J<|zo J (nO (ht J) hI)<|bp J<|aQ<|ap ?_;exact bf (aS (ih1 (IntKind.i64.wrap (n1+(1:Int))) h) (bv J))
  ·refine bu ?_;refine ai (ai (aN ?_));refine aw<|ah<|au<|aF rfl<|zo rfl (cd gF rfl rfl bS (.head _) (ht rfl))<|aF rfl<|bC h fun y q_y h=>zo J (Mh jW d3 J (ht J) (ht J) q_y)<|bL<|bC h fun r1 q_r1 h=>Fk hy he1 q_r1 (ht J) ⟨(ht J),aT⟩ J fun e4 he2=>zo J (fS (ht J))<|aq<|c9 h J (fun h=>?_) (fun h=>?_)
   ·refine ak ?_;refine ae (aA (ae (aA ?_)));refine bF<|bF ?_;cases so h;exact IR J he2 hB ⟨fun _ h=>h,aT⟩
   ·refine dS<|av<|zo J (cd gF J J bS (.tail _ (.head _)) (ht J))<|aF J<|bC h fun y1 q_y1 h=>zo J (Mg jW d3 J (ht J) (ht J) q_y1)<|bL<|ax gF J an J (ht J) (ht J)<|aQ<|ap ?_;exact bf (aS (ih e4 r1.2 y1 ⟨he2,h⟩) (bv J))
 ·refine bu ?_;refine ai (ai (aN ?_));refine bF ?_;cases so h;exact Lm J he1 hB ⟨fun _ h=>h,aT⟩

theorem RW(l:(List (List ac)))(alike:((List ac)→(List ac)→Option Bool)){R:It (List (List ac))}(h:Eg l alike=some R):zR aO 179 [ca (dj) l,(dn aO FJ ko (fun(x:(List ac)×(List ac))=>alike x.1 x.2))] (fun(x:(List (List ac)))=>[ca (dj) x]) R:=by
 refine zR.of Tryz.func179 J J J fun w0 S0=>au<|ym (ht J) J fun b=>zo J (Di (ht J))<|zo J (aL hV)<|aq<|au<|CV (O1:=[bx dT 32 b l]) (cts:=[tV (aP b 0),bO (rT ((dn aO FJ ko (fun(x:(List ac)×(List ac))=>alike x.1 x.2)))) ()]) (caps:=[.tmp 2,.tmp 3]) J aaM (UP l alike b) ⟨(ht J),(ht J),aT⟩ J fun v fp=>bp J<|aq<|ak ?_;cases so h;exact Lk J J

theorem RV(s:(List (List ac))){R:(List (List ac))}(h:fe s=some R):f9 aO 180 [ca (dj) s] false dj 43 R:=by
 refine f9.of Tryz.func180 J J J fun w0 S0=>au<|bQ false dj 43<|zo J (aL s9)<|aq<|ah<|au<|aF J<|tq jW (ht J) J fun isnil hisnil=>aq<|oS (ht J) (fun hc=>?_) (fun hc=>?_)
 ·have hx:=hisnil hc
  have h:some Hr=some R:=by simpa [fe,app,hx] using h
  refine au<|bQ false dj 43<|zo J (aL s9)<|aq<|ak<|ae ?_;cases so h;exact gm J J
 ·refine dS<|au<|j6 (r:=dj) (ys:=Hr) (xs:=[]) jW d3 J J J J J trivial J fun l c=>aF J<|bC h fun x q_x h=>cV d3 J J J J jW J J (ht J) (ht J) q_x fun l1 c1=>bp J<|aq<|ak ?_;cases so h;exact gm J J
theorem U8(s:(List (List ac))){R:(List (List ac))}(h:fe s=some R):aU aO 180 [ca (dj) s] (ca (dj) R):=(RV _ h).spec

theorem Vy(l:(List (List ac)))(columns:(List Int)){R:(List ic)×Int}(h:sQ l columns=some R):aU aO 105 [ca (dj) l,lW columns] (tT [ca (fP) R.1,bM R.2]):=by
 refine KU Tryz.func105 J J J fun w0 S0=>au<|zo J (je J)<|zo J (aL (show aJ _ _ _ (ca (fP) ([]))from j9))<|zo J (cw)<|aq<|ah<|au<|aF J<|zo J (bB d9 J J)<|bC h fun r q_r h=>zo J (aD abn (Vb _ _ q_r) ⟨(ht J),(ht J),aT⟩)<|bp J<|aq<|au<|aF J<|zo J (tJ J)<|aq ?_;refine c9 h J (fun h=>?_) (fun h=>?_)
 ·refine au<|aF J<|zo J (aL (show aJ _ _ _ (ca (fP) ([]))from j9))<|bp J<|aq<|ak<|ae<|rz ?_;cases so h;exact cJ J J J
 ·refine dS<|au<|aF J<|bC h fun r1 q_r1 h=>iR WF (KD _ q_r1) ⟨(ht J),aT⟩ J fun l1 c=>bp J<|aq<|au<|aF J<|zo J ((show bP _ _ _ _ ((dn aO FJ yy (fun(x:(List ac)×(List ac))=>(ml columns) x.1 x.2)))from hJ (cts:=[bO nw columns]) (caps:=[.tmp 3]) abm ⟨(ht J),aT⟩ (fun x y h=>Va _ _ _ h)))<|bC h fun uu q_srt h=>?_;refine Fl (n:=r1.length) wd ?_ Sr ?_ q_srt ?_ ?_ ?_ ?_ ?_
  ·rfl
  ·rfl
  ·exact(ht J)
  ·rfl
  ·exact(ht J)
  ·rfl
  intro hl
  refine oL hl 18 J<|oL hl 7 J<|oL hl 19 J<|aq<|au<|zo J ((show bP _ _ _ _ ((dn aO FJ ko (fun(x:(List ac)×(List ac))=>(ge columns) x.1 x.2)))from hJ (cts:=[bO nw columns]) (caps:=[.tmp 3]) abl ⟨(ht J),aT⟩ (fun x y h=>U9 _ _ _ h)))<|bp J<|aq<|au<|bQ false fP 154<|aZ (x:=aR none 0 0) Nq (fun _=>Et) J fun b=>aq<|ah<|au<|aF J<|aF J<|hX<|kj ?_;refine jx 18 J<|jx 7 J<|jx 19 J<|jx 23 J<|bC h fun it q_it h=>G9 abk (RW _ _ q_it) ⟨(lk (ht J)),(ht J),aT⟩ J fun v fp=>aq<|ay<|bC h fun s q_s h=>?_;refine Qf (fun(i:Option Nat×Nat×List ic)=>[dV dj 43 l1 c uu,bx rV 150 b (aR i.1 i.2.1 i.2.2.length),fx fP 154 i.1 i.2.1 i.2.2]) (fun(i:Option Nat×Nat×List ic)=>(i.2.2)) J (ht J) (none,0,([]:List ic)) J q_s (fun _=>J) J (fun i x s2 h lp rec1 _ _ _=>?_) (fun i hi bd=>?_)
  ·obtain⟨l2,c1,xs⟩:=i
   replace h:jZ columns x xs=some s2:=h
   refine(show CG _ _ _ [vN lp rec1 .ready,dV dj 43 l1 c uu,bx rV 150 b (aR l2 c1 xs.length),fx fP 154 l2 c1 xs] _ from ?_);refine FD (G' :=[(0,ca (dj) l),(1,lW columns),(3,bO nw columns),(4,ca (fP) ([])),(5,bM 0),(6,bM r),(7,tO dj l1 c uu),(8,(dn aO FJ ko (fun(x:(List ac)×(List ac))=>(ge columns) x.1 x.2))),(9,tV (aP b 0)),(11,ca (dj) l),(12,lW columns),(13,bM r),(14,bM r),(15,ig (r !=(0:Int))),(17,ca (dj) l),(18,tO dj l1 c uu),(19,tO dj l1 c uu),(20,(dn aO FJ yy (fun(x:(List ac)×(List ac))=>(ml columns) x.1 x.2))),(22,(dn aO FJ ko (fun(x:(List ac)×(List ac))=>(ge columns) x.1 x.2))),(23,tO dj l1 c uu),(24,(dn aO FJ ko (fun(x:(List ac)×(List ac))=>(ge columns) x.1 x.2))),(26,ca (dj) x)]) ?_ ⟨J,J,J,J,J,J,J,J,J,J,J,J,J,J,J,J,J,J,J,J,J,J,aT⟩;refine av<|bp J<|aQ<|SU<|ay<|bC h fun e q_e h=>bC h fun r2 q_r2 h=>bC h fun r3 q_r3 h=>?_
   refine tG 10 (ts:=[rL l2 c1 xs,ca (dj) x,bO dj e,ca (af) e,lW columns,ca (af) r2,ca (dj) x,ca (dj) r3,tD fP (⟨r2,r3⟩:ic),ca (fP) ([(⟨r2,r3⟩:ic)])]) mixed J J J
    ⟨fd 9 J J J (hM Nq (.tail _ (.tail _ (.head _))) (ht J)),
    ⟨fd 10 J J J (dA J),
    ⟨bW 28 1 J J J (bq jW d3 J (ht J) hI q_e),
    ⟨bW 29 2 J J J (bB d3 J J),
    ⟨fd 3 J J J (bB d9 J J),
    ⟨d8 30 3 31 4 J J J J (aD KN (AZ _ _ q_r2) ⟨(ht J),(ht J),aT⟩),
    ⟨fd 10 J J J (dA J),
    ⟨bW 33 6 J J J (aD abj (U8 _ q_r3) ⟨(ht J),aT⟩),
    ⟨d8 32 5 34 7 J J J J (ck (y:=(⟨r2,r3⟩:ic)) As Wk DH (⟨_,_,_,_,_,J,LL,J,(ht J),⟨_,_,_,_,_,J,LK,J,(ht J),J⟩⟩)),
    ⟨bW 35 8 J J J (aV (r:=fP) (ys:=[(⟨r2,r3⟩:ic)]) (xs:=[.tmp 35]) Gi As J J J J J ⟨(ht J),aT⟩),
    aT⟩⟩⟩⟩⟩⟩⟩⟩⟩⟩ ?_
   refine qL<|bC h fun l3 q_l3 h=>cV As J J J J Gi J J (ht J) (ht J) q_l3 fun l4 c2=>qL<|ax Nq J an J (ht J) (Ru (ht J))<|aQ<|ap<|bF<|bF<|cK<|cK ?_;exact Ln (l4,c2,l3) (so h) J
  ·skip
   obtain⟨l5,c3,xs1⟩:=i
   have hi:xs1=s:=hi
   subst hi
   refine(show AT _ _ _ [Ba bd,dV dj 43 l1 c uu,bx rV 150 b (aR l5 c3 xs1.length),fx fP 154 l5 c3 xs1] _ from ?_);refine cO (G' :=[(0,ca (dj) l),(1,lW columns),(3,bO nw columns),(4,ca (fP) ([])),(5,bM 0),(6,bM r),(7,tO dj l1 c uu),(8,(dn aO FJ ko (fun(x:(List ac)×(List ac))=>(ge columns) x.1 x.2))),(9,tV (aP b 0)),(11,ca (dj) l),(12,lW columns),(13,bM r),(14,bM r),(15,ig (r !=(0:Int))),(17,ca (dj) l),(18,tO dj l1 c uu),(19,tO dj l1 c uu),(20,(dn aO FJ yy (fun(x:(List ac)×(List ac))=>(ml columns) x.1 x.2))),(22,(dn aO FJ ko (fun(x:(List ac)×(List ac))=>(ge columns) x.1 x.2))),(23,tO dj l1 c uu),(24,(dn aO FJ ko (fun(x:(List ac)×(List ac))=>(ge columns) x.1 x.2)))]) ?_ ⟨J,J,J,J,J,J,J,J,J,J,J,J,J,J,J,J,J,J,J,J,J,aT⟩;refine ap<|aw<|au<|zo rfl (hM Nq (.tail _ (.tail _ (.head _))) (ht rfl))<|bp rfl<|zo rfl (cw)<|aq<|ak<|cK<|jA<|cB 4 rfl<|cB 38 rfl<|jB 4 rfl<|bm<|bF<|bm<|bF<|bm<|Bq<|rz ?_;cases so h;exact cJ J J J

theorem ZQ(b:Nat)(ix:OI)(r:cT)(n:am){R:(List (List ac))×Int}(h:i8 r n=some R):c0 aO 54 [tV (aP b 0),tD aI n] (jq b r ix) (fun _:OI=>tT [ca (dj) R.1,bM R.2]) (fun _=>(jq b r ix)):=by
 refine c0.of Tryz.func54 J J J fun w0 S0=>?_;refine(show CG _ _ _ [bx (rH ee [(1,aR (ix.h 0).1 (ix.h 0).2 r.rows.length),(2,aR (ix.h 1).1 (ix.h 1).2 r.width.length)]) 96 b r,dV dT 32 (ix.h 0).1 (ix.h 0).2 r.rows,dV bX 3 (ix.h 1).1 (ix.h 1).2 r.width] _ from ?_);refine au<|zo J (je J)<|zo J (aL (show aJ _ _ _ vA from j9))<|zo J (cw)<|aq<|ah<|bC h fun e q_e h=>bC h fun r1 q_r1 h=>?_
 refine cU (ts:=[_,_,_,_,_,_,_,_,_,_,_,_,_,_,_,_]) mixed J J
  ⟨fd 0 J J J (dA J),
  ⟨bW 17 0 J J J (dE (ht J)),
  ⟨bW 18 1 J J J (kP 1 qF J J J),
  ⟨bW 19 2 J J J (df uP J (.head _) (.tail _ (.head _)) (ht J)),
  ⟨fd 3 J J J (cW jT dP J J),
  ⟨bW 21 4 J J J (bB cr J J),
  ⟨d8 20 3 22 5 J J J J (bq ot gF J (lk (ht J)) (ht J) q_e),
  ⟨bW 23 6 J J J (bB gF J J),
  ⟨fd 3 J J J (cW tf mA J J),
  ⟨bW 25 8 J J J (bB d9 J J),
  ⟨d8 24 7 26 9 J J J J (aD abO (Vy _ _ q_r1) ⟨(ht J),(ht J),aT⟩),
  ⟨bW 27 10 J J J (dA J),
  ⟨bW 16 11 J J J (hY J J),
  ⟨bW 16 11 J J J (hY J J),
  ⟨bW 28 12 J J J (uM J),
  ⟨bW 29 13 J J J (uM J),
  aT⟩⟩⟩⟩⟩⟩⟩⟩⟩⟩⟩⟩⟩⟩⟩⟩ ?_
 refine aw<|ah<|au<|aF rfl<|zo rfl (tJ rfl)<|aq<|c9 h rfl (fun h=>?_) (fun h=>?_)
 ·refine au<|aF J<|zo J (aL (show aJ _ _ _ vA from j9))<|bp J<|aq<|ak<|ae<|aK<|aK<|aK ?_;cases so h;exact d7 (ts:=[ca (dj) ([]),bM r1.2]) (rvs:=[.tmp 4,.tmp 5]) J J ⟨bc J,bc J,aT⟩ pE J J
 ·refine dS ?_;refine kV (Z:=fun groups=>lB n groups=some R) (Of:=fun groups=>[bx (rH ee [(1,aR (ix.h 0).1 (ix.h 0).2 r.rows.length),(2,aR (ix.h 1).1 (ix.h 1).2 r.width.length)]) 96 b r,dV dT 32 (ix.h 0).1 (ix.h 0).2 r.rows,dV bX 3 (ix.h 1).1 (ix.h 1).2 r.width]) (Gf:=fun groups=>[(3,bO aI n),(6,ca (fP) groups)]) (fun groups h=>?_) (fun K=>?_)
  ·skip
   refine au<|bQ false dj 43<|zo J (aL s9)<|aq<|ah<|au<|aF J<|zo J (iM Gi J)<|zo J (bD hI)<|aq<|ay<|ba (k:=44) J fun hN=>bI ?_;refine aS (kE (Z:=fun ls i out l c=>(groups.drop i=ls)∧ft n ls out=some R) (Of:=fun _ i out l c=>[fx dj 43 l c out,bx (rH ee [(1,aR (ix.h 0).1 (ix.h 0).2 r.rows.length),(2,aR (ix.h 1).1 (ix.h 1).2 r.width.length)]) 96 b r,dV dT 32 (ix.h 0).1 (ix.h 0).2 r.rows,dV bX 3 (ix.h 1).1 (ix.h 1).2 r.width]) (Gf:=fun _ i out l c=>[(3,bO aI n),(8,rL l c out),(44,ca (fP) groups),(45,jk groups),(46,bM (i:Int))]) (fun i out l c h=>?_) (fun e1 tl ih i out l c h=>?_) groups 0 Hr none 0 ⟨J,h⟩) (bv J)
   ·obtain⟨hx,h⟩:=h
    refine aC<|au<|zo J (fD J J)<|aq<|ah<|bz (ht J) (di hx)<|bu ?_;refine ai (ai (aN ?_));refine aw<|au<|aF rfl<|bp rfl<|zo rfl (cw)<|aq<|ak<|jA<|cB 8 rfl<|cB 80 rfl<|cB 4 rfl<|jB 4 rfl<|bm<|aK<|aK<|aK ?_;cases so h;exact d7 (ts:=[ca (dj) out,bM 0]) (rvs:=[.tmp 4,.tmp 5]) J J ⟨bc J,bc J,aT⟩ pE J J
   ·obtain⟨hx,h⟩:=h
    refine aC<|au<|zo J (fD J J)<|aq<|ah<|bw (ht J) (dg hx)<|dS<|ah<|ay<|au<|zo J (lX Gi As J J J (cS hx))<|zo J (bB As J J)<|aZ (r:=fP) (x:=SZ) As (fun _=>DH _) J fun b1=>ax As J an J (ht J) (ht J)<|aW 10 J<|aq<|au<|zo J (cW Ua Mu J J) ?_;refine zo J (bB d3 J J)<|bC h fun r2 q_r2 h=>iR Sw (E3 _ q_r2) ⟨(ht J),aT⟩ J fun l1 c1=>bp J<|aq<|ah<|au<|zo J (cW p8 mz J J)<|zo J (bB Ar J J)<|zo J (iM uE J)<|zo J (bD hI)<|aq<|ay<|ba (k:=54) J fun hN1=>bI<|kU<|kU<|kU<|pz<|kU ?_;refine aS (kE (Z:=fun ls1 i1 x l2 c2=>(n.Aggs.drop i1=ls1)∧iD (ft n tl) e1 out ls1 x=some R) (Of:=fun _ i1 x l2 c2=>[fx dj 43 l c out,fx af 46 l2 c2 x,bx (rH ee [(1,aR (ix.h 0).1 (ix.h 0).2 r.rows.length),(2,aR (ix.h 1).1 (ix.h 1).2 r.width.length)]) 96 b r,dV dT 32 (ix.h 0).1 (ix.h 0).2 r.rows,dV bX 3 (ix.h 1).1 (ix.h 1).2 r.width]) (Gf:=fun _ i1 x l2 c2=>[(3,bO aI n),(8,rL l c out),(10,bO fP e1),(11,rL l2 c2 x),(44,ca (fP) groups),(45,jk groups),(46,bM (i:Int)),(54,ca (eg) n.Aggs),(55,jk n.Aggs),(56,bM (i1:Int))]) (fun i1 x l2 c2 h=>?_) (fun e2 tl1 ih1 i1 x l2 c2 h=>?_) n.Aggs 0 r2 l1 c1 ⟨J,h⟩) (bv J)
    ·obtain⟨hx1,h⟩:=h
     refine aC<|au<|zo J (fD J J)<|aq<|ah<|bz (ht J) (di hx1)<|bu ?_;refine ai (ai (aN ?_));refine aw<|av<|aF rfl<|aF rfl<|bL<|kj<|jx 11 rfl<|jx 76 rfl<|zo rfl (aV (r:=dj) (ys:=[x]) (xs:=[.tmp 76]) jW d3 J J J J J ⟨(lk (ht J)),aT⟩)<|bL<|bC h fun out1 q_out1 h=>cV d3 J J J J jW J J (ht J) (ht J) q_out1 fun l3 c3=>bp J<|aQ<|ap<|aw<|av<|zo rfl (lY (cA hx hN) rfl)<|aF rfl<|aQ<|bF<|bm ?_;exact bf (aS (ih (i+1) out1 l3 c3 ⟨cz hx,h⟩) (bv J))
    ·obtain⟨hx1,h⟩:=h
     refine aC<|au<|zo J (fD J J)<|aq<|ah<|bw (ht J) (dg hx1)<|dS<|ah<|ay<|au<|zo J (lX uE rW J J J (cS hx1))<|zo J (bB rW J J)<|aZ (r:=eg) (x:=WX) rW (fun _=>DI _) J fun b2=>ax rW J an J (ht J) (ht J)<|aW 13 J<|aq<|au<|zo J (bB rW J J) ?_;refine zo J (cW T9 Mt J J)<|zo J (bB gF J J)<|bC h fun r3 q_r3 h=>zo J (aD acn (X1 _ _ q_r3) ⟨(ht J),(ht J),aT⟩)<|aF J<|zo J (hY J J)<|zo J (hY J J)<|aZ (r:=af) (x:=ie) aH (fun _=>bh _) J fun b3=>ax aH J an J (ht J) (ht J)<|aW 14 J<|bp J<|aq<|ah<|au<|aF J<|zo J (tJ J)<|aq<|c9 h J (fun h=>?_) (fun h=>?_)
     ·refine au<|aF J<|zo J (aL (show aJ _ _ _ vA from j9))<|bp J<|aq<|ak ?_;refine ae (aA (ae (ae (aA (ae (aA (ae (ae (aA (ae ?_))))))))));refine bm<|bm<|aK<|aK<|aK ?_;cases so h;exact d7 (ts:=[ca (dj) ([]),bM r3.2]) (rvs:=[.tmp 4,.tmp 5]) J J ⟨bc J,bc J,aT⟩ pE J J
     ·refine dS<|av<|aF J<|zo J (bB aH J J)<|zo J (aV (r:=af) (ys:=[r3.1]) (xs:=[.tmp 71]) iK aH J J J J J ⟨(ht J),aT⟩)<|bL<|bC h fun x1 q_x1 h=>cV aH J J J J iK J J (ht J) (ht J) q_x1 fun l4 c4=>bp J<|aQ<|ap<|aw<|av<|zo rfl (lY (cA hx1 hN1) rfl)<|aF rfl<|aQ<|fq<|fq<|fq<|cK<|fq ?_;exact bf (aS (ih1 (i1+1) x1 l4 c4 ⟨cz hx1,h⟩) (bv J))
  ·skip
   refine au<|zo J (cW tf mA J J)<|zo J (bB d9 J J)<|zo J (iM gM J)<|zo J (np J)<|aF J<|dC J J (fun hg=>dA J)<|dC J J (fun hg=>dO Gi (bK J hg))<|dC J J (fun hg=>dL (bK J hg) hI)<|zo J (uK J J)<|aq<|c9 h J (fun h=>?_) (fun h=>?_)
   ·refine av<|zo J (ck (y:=SZ) As Wk DH (J))<|zo J (aV (r:=fP) (ys:=[SZ]) (xs:=[.tmp 42]) Gi As J J J J J ⟨(ht J),aT⟩)<|bp J<|aQ ?_;exact cO (K ([SZ]) h) (bv J)
   ·refine bA ?_;exact cO (K r1.1 h) (bv J)

end Go.Proofs.YtfhhakidodmdfaaGreatDoor

