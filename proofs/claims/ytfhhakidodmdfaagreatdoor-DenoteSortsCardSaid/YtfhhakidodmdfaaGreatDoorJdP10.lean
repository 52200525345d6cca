/- da of this claim: P10. -/
import Derived.Test.YtfhhakidodmdfaaGreatDoorJdT
import Derived.Test.YtfhhakidodmdfaaGreatDoorJdP9
set_option linter.all false
namespace Go.Proofs.YtfhhakidodmdfaaGreatDoor
open Go
set_option maxRecDepth 100000

theorem Kq(l:(List (List ac))){R:(List (List ac))}(h:sF l=some R):fT aO 174 [bR (cK) l] false cK 43 R:=by
 refine fT.of Tryz.func174 J J J fun w0 S0=>au<|bN false cK 43<|zo J (aJ rY)<|aq<|au<|bN false cK 43<|zo J (aJ rY)<|aq<|ah<|au<|aF J<|zo J (iw gR J)<|zo J (bJ hI)<|aq<|ay<|ba (k:=6) J fun hN=>bG ?_;refine iF<|pU ?_;refine aT (jL (Z:=fun ls i out l1 c=>(l.drop i=ls)∧mX ls out=some R) (Of:=fun _ i out l1 c=>[fq cK 43 l1 c out]) (Gf:=fun _ i out l1 c=>[(3,qM l1 c out),(6,bR (cK) l),(7,kg l),(8,bH (i:Int))]) (fun i out l1 c h=>?_) (fun e tl ih i out l1 c h=>?_) l 0 Ft none 0 ⟨J,h⟩) (bt J)
 ·obtain⟨hx,h⟩:=h
  refine aC<|au<|zo J (fG J J)<|aq<|ah<|bA (ht J) (dC hx)<|bu ?_;refine ai (ai (aN ?_));refine av<|au<|aF rfl<|bm rfl<|aq<|ak ?_;cases so h;exact fQ J J
 ·obtain⟨hx,h⟩:=h
  refine aC<|au<|zo J (fG J J)<|aq<|ah<|bz (ht J) (du hx)<|dR<|ah<|ay<|au<|zo J (lq gR cO J J J (cW hx))<|zo J (bB cO J J)<|bm J<|aq<|aw<|aF J<|aF J<|bv h fun r q_r h=>iv Sn (EM _ q_r) ⟨(ht J),aR⟩ J fun l2 c1=>?_;refine j8<|jt 14 J<|zo J (aV (r:=cK) (ys:=[r]) (xs:=[.tmp 14]) gR cO J J J J J ⟨(k7 (ht J)),aR⟩)<|bI<|bv h fun out1 q_out1 h=>cT cO J J J J gR J J (ht J) (ht J) q_out1 fun l3 c2=>bm J<|aQ<|ap<|av<|aw<|zo rfl (mI (cQ hx hN) rfl)<|aF rfl<|aQ<|bE<|bk ?_;exact bg (aT (ih (i+1) out1 l3 c2 ⟨cP hx,h⟩) (bt J))
theorem RR(r:(List ac))(columns:(List Int)){R:(List ac)}(h:nr r columns=some R):fT aO 177 [bR (af) r,mf columns] false af 46 R:=by
 refine fT.of Tryz.func177 J J J fun w0 S0=>au<|bN false af 46<|zo J (aJ rY)<|aq<|au<|bN false af 46<|zo J (aJ rY)<|aq<|ah<|au<|aF J<|zo J (iw g9 J)<|zo J (bJ hI)<|aq<|ay<|ba (k:=8) J fun hN=>bG ?_;refine iF<|pU ?_;refine aT (jL (Z:=fun ls i out l c=>(columns.drop i=ls)∧lY r ls out=some R) (Of:=fun _ i out l c=>[fq af 46 l c out]) (Gf:=fun _ i out l c=>[(0,bR (af) r),(5,qM l c out),(8,mf columns),(9,kg columns),(10,bH (i:Int))]) (fun i out l c h=>?_) (fun e tl ih i out l c h=>?_) columns 0 Hf none 0 ⟨J,h⟩) (bt J)
 ·obtain⟨hx,h⟩:=h
  refine aC<|au<|zo J (fG J J)<|aq<|ah<|bA (ht J) (dC hx)<|bu ?_;refine ai (ai (aN ?_));refine av<|au<|aF rfl<|bm rfl<|aq<|ak ?_;cases so h;exact fQ J J
 ·obtain⟨hx,h⟩:=h
  refine aC<|au<|zo J (fG J J)<|aq<|ah<|bz (ht J) (du hx)<|dR<|ah<|ay<|au<|zo J (lq g9 cv J J J (cW hx))<|zo J (bB cv J J)<|bm J<|aq<|aw<|aF J<|aF J<|aF J<|bv h fun e1 q_e1 h=>?_;refine zo J (lq gc aH J J J q_e1)<|zo J (bB aH J J)<|zo J (aV (r:=af) (ys:=[e1]) (xs:=[.tmp 18]) gc aH J J J J J ⟨(ht J),aR⟩)<|bv h fun out1 q_out1 h=>cT aH J J J J gc J J (ht J) (ht J) q_out1 fun l1 c1=>bm J<|aQ<|ap<|av<|aw<|zo rfl (mI (cQ hx hN) rfl)<|aF rfl<|aQ ?_;exact bg (aT (ih (i+1) out1 l1 c1 ⟨cP hx,h⟩) (bt J))
theorem AR(r:(List ac))(columns:(List Int)){R:(List ac)}(h:nr r columns=some R):aU aO 177 [bR (af) r,mf columns] (bR (af) R):=(RR _ _ h).spec

theorem UX(columns:(List Int))(a1:(List ac))(b:(List ac)){R:Int}(h:mj columns a1 b=some R):aU aO 175 [bR (af) a1,bR (af) b,bK nj columns] (bH R):=by
 refine aU.of Tryz.func175 J J J fun w0 S0=>au<|zo J (cq)<|aq<|ah<|bv h fun r q_r h=>bv h fun r1 q_r1 h=>bv h fun r2 q_r2 h=>bv h fun r3 q_r3 h=>bv h fun r4 q_r4 h=>?_
 refine cJ (ts:=[_,_,_,_,_,_,_,_,_,_,_,_,_]) mixed J J
  ⟨ep 0 J J J (cD J),
  ⟨ep 2 J J J (bB eC J J),
  ⟨dv 6 0 7 1 J J J J (aA KB (AR _ _ q_r) ⟨(ht J),(ht J),aR⟩),
  ⟨ep 1 J J J (cD J),
  ⟨ep 2 J J J (bB eC J J),
  ⟨dv 9 3 10 4 J J J J (aA KB (AR _ _ q_r1) ⟨(ht J),(ht J),aR⟩),
  ⟨dv 8 2 11 5 J J J J (aA Vw (H8 _ _ q_r2) ⟨(ht J),(ht J),aR⟩),
  ⟨ep 0 J J J (cD J),
  ⟨ep 1 J J J (cD J),
  ⟨dv 13 7 14 8 J J J J (aA Vw (H8 _ _ q_r3) ⟨(ht J),(ht J),aR⟩),
  ⟨dv 12 6 15 9 J J J J (aV (r:=bY) (ys:=[r2,r3]) (xs:=[.tmp 12,.tmp 15]) g9 cv J J J J J ⟨(ht J),(ht J),aR⟩),
  ⟨bT 16 10 J J J (aA Sj (Ii _ q_r4) ⟨(ht J),aR⟩),
  ⟨bT 17 11 J J J (tA J),
  aR⟩⟩⟩⟩⟩⟩⟩⟩⟩⟩⟩⟩⟩ ?_
 refine av<|ak ?_;cases so h;exact aG J J

theorem U5(s1:(List ac))(s2:(List ac)){R:Bool}(h:iT s1 s2=some R):aU aO 157 [bR (af) s1,bR (af) s2] (gY R):=by
 refine aU.of Tryz.func157 J J J fun w0 S0=>au<|zo J (jE)<|aq<|ah<|au<|aF J<|zo J (iw gc J)<|aF J<|zo J (iw gc J)<|zo J (eZ (ht J) (ht J))<|aq<|cU h J (fun h=>?_) (fun h=>?_)
 ·refine au<|zo J (jE)<|aq<|ak<|ae ?_;cases so h;exact aG J J
 ·refine dR<|ah<|au<|aF J<|zo J (iw gc J)<|zo J (bJ hI)<|aq<|ay<|ba (k:=11) J fun hN=>bG ?_;refine aT (eH (Z:=fun ls i=>(s1.drop i=ls)∧d4 s2 ls i=some R) (Of:=fun _ i=>[]) (Gf:=fun _ i=>[(0,bR (af) s1),(1,bR (af) s2),(12,kg s1),(13,bH (i:Int))]) (fun i h=>?_) (fun e tl ih i h=>?_) s1 0 ⟨J,h⟩) (bt J)
  ·obtain⟨hx,h⟩:=h
   refine aC<|au<|zo J (fG J J)<|aq<|ah<|bA (ht J) (dC hx)<|bu ?_;refine ai (ai (aN ?_));refine av<|au<|zo rfl (jE)<|aq<|ak ?_;cases so h;exact aG J J
  ·obtain⟨hx,h⟩:=h
   refine aC<|au<|zo J (fG J J)<|aq<|ah<|bz (ht J) (du hx)<|dR<|ah<|ay<|au<|aF J<|bm J<|aq<|ah<|bv h fun e1 q_e1 h=>?_
   refine cJ (ts:=[_,_,_,_,_,_,_,_,_]) mixed J J
    ⟨ep 0 J J J (cD J),
    ⟨ep 5 J J J (cD J),
    ⟨dv 16 0 17 1 J J J J (lq gc aH J J J (cW hx)),
    ⟨bT 18 2 J J J (bB aH J J),
    ⟨ep 1 J J J (cD J),
    ⟨ep 5 J J J (cD J),
    ⟨dv 20 4 21 5 J J J J (lq gc aH J J J q_e1),
    ⟨bT 22 6 J J J (bB aH J J),
    ⟨dv 19 3 23 7 J J J J (HN MF (ht J) (ht J)),
    aR⟩⟩⟩⟩⟩⟩⟩⟩⟩ ?_
   refine av<|cU h rfl (fun h=>?_) (fun h=>?_)
   ·refine au<|zo J (jE)<|aq<|ak ?_;refine aD (ae (ae (aD (ae ?_))));cases so h;exact aG J J
   ·refine bw<|ap<|av<|aw<|zo rfl (mI (cQ hx hN) rfl)<|aF rfl<|aQ ?_;exact bg (aT (ih (i+1) ⟨cP hx,h⟩) (bt J))

theorem Rw(a1:(List ac))(b:(List ac)){R:Bool}(h:o7 a1 b=some R):aU aO 93 [bR (af) a1,bR (af) b] (gY R):=by
 refine aU.of Tryz.func93 J J J fun w0 S0=>au<|zo J (jE)<|aq<|au<|aF J<|aF J<|bv h fun r q_r h=>zo J (aA aa6 (U5 _ _ q_r) ⟨(ht J),(ht J),aR⟩)<|bm J<|aq<|ak ?_;cases so h;exact aG J J

theorem UW(columns:(List Int))(a1:(List ac))(b:(List ac)){R:Bool}(h:gn columns a1 b=some R):aU aO 178 [bR (af) a1,bR (af) b,bK nj columns] (gY R):=by
 refine aU.of Tryz.func178 J J J fun w0 S0=>au<|zo J (jE)<|aq<|ah<|bv h fun r q_r h=>bv h fun r1 q_r1 h=>bv h fun r2 q_r2 h=>?_
 refine cJ (ts:=[_,_,_,_,_,_,_,_]) mixed J J
  ⟨ep 0 J J J (cD J),
  ⟨ep 2 J J J (bB eC J J),
  ⟨dv 6 0 7 1 J J J J (aA KB (AR _ _ q_r) ⟨(ht J),(ht J),aR⟩),
  ⟨ep 1 J J J (cD J),
  ⟨ep 2 J J J (bB eC J J),
  ⟨dv 9 3 10 4 J J J J (aA KB (AR _ _ q_r1) ⟨(ht J),(ht J),aR⟩),
  ⟨dv 8 2 11 5 J J J J (aA Zx (Rw _ _ q_r2) ⟨(ht J),(ht J),aR⟩),
  ⟨bT 12 6 J J J (tA J),
  aR⟩⟩⟩⟩⟩⟩⟩⟩ ?_
 refine av<|ak ?_;cases so h;exact aG J J

theorem UD(l:(List (List ac)))(alike:((List ac)→(List ac)→Option Bool))(b:Nat):zS aO 260 (fun(x:(List (List ac)))=>[bR (cK) x]) (fun _=>vA l alike) [bx d7 32 b l] [tV (aP b 0),bK (rT ((dK aO Fs kN (fun(x:(List ac)×(List ac))=>alike x.1 x.2)))) ()]:=by
 refine zS.of Tryz.func260 J J J fun Sg yld s R h I yv hy e he w0 S0 B hB=>?_
 replace h:vA l alike yld s=some R:=h
 refine ay<|bG<|iF ?_;refine aT (OP (Z:=fun n e1 s1 x=>I s1 e1∧jV alike yld n s1 x=some R) (Of:=fun e1 s1 x=>[bx d7 32 b x,e1]) (Gf:=fun e1 s1 x=>[(0,tV yv),(1,tV (aP b 0)),(2,bK (rT ((dK aO Fs kN (fun(x:(List ac)×(List ac))=>alike x.1 x.2)))) ())]) (fun e1 s1 x h=>nn h.2) (fun n ih e1 s1 x h=>?_) ge e s l ⟨he,h⟩) (bt J);refine aC ?_
 obtain⟨he1,h⟩:=h
 refine ah<|au<|zo J (cd hJ J J bQ (.head _) (ht J))<|zo J (iw gR J)<|zo J (jm (ht J) hI)<|aq<|cU h J (fun h=>?_) (fun h=>?_)
 ·refine dR<|ay<|au<|zo J (cq)<|aq<|ah<|ay<|bG ?_;refine aT (Dn (Z:=fun n2 n1=>mW alike yld (jV alike yld n) s1 x n2 n1=some R) (Of:=fun n1=>[bx d7 32 b x,e1]) (Gf:=fun n1=>[(0,tV yv),(1,tV (aP b 0)),(2,bK (rT ((dK aO Fs kN (fun(x:(List ac)×(List ac))=>alike x.1 x.2)))) ()),(4,bH n1)]) (fun n1 h=>nn h) (fun n2 ih1 n1 h=>?_) ge (1:Int) h) (bt J);refine aC<|ah<|ah<|bv h fun t q_t h=>?_
  obtain⟨e2,h1t,h0t⟩:=og q_t
  have q_e2g:=fun hb=>(h1t hb).1
  obtain⟨e3,h1t⟩:=Tv (fun hb=>(h1t hb).2)
  have q_e3g:=fun hb=>(h1t hb).1
  obtain⟨r,h1t⟩:=Tv (fun hb=>(h1t hb).2)
  have q_rg:=fun hb=>(h1t hb).1
  refine cJ (ts:=[_,_,_,_,_,_,_,_,_,_,_,_,_,_,_]) mixed J J
   ⟨ep 4 J J J (cD J),
   ⟨ep 1 J J J (cd hJ J J bQ (.head _) (ht J)),
   ⟨bT 9 1 J J J (iw gR J),
   ⟨dv 8 0 10 2 J J J J (fG J J),
   ⟨bT 11 3 J J J (cD J),
   ⟨pZ 2 12 4 J J J J (dJ J J J J (fun hg=>uX YK (ht J))),
   ⟨pZ 1 12 4 J J J J (dJ J J J J (fun hg=>cd hJ J J bQ (.head _) (ht J))),
   ⟨kO 14 6 12 4 J J J J (dJ J J J J (fun hg=>bp gR cO J (bD J hg) hI (q_e2g hg))),
   ⟨kO 15 7 12 4 J J J J (dJ J J J J (fun hg=>bM cO J J (bD J hg))),
   ⟨pZ 1 12 4 J J J J (dJ J J J J (fun hg=>cd hJ J J bQ (.head _) (ht J))),
   ⟨pZ 4 12 4 J J J J (dJ J J J J (fun hg=>cD J)),
   ⟨tF 17 9 18 10 12 4 J J J J J (dJ J J J J (fun hg=>bp gR cO J (bD J hg) (bD J hg) (q_e3g hg))),
   ⟨kO 19 11 12 4 J J J J (dJ J J J J (fun hg=>bM cO J J (bD J hg))),
   ⟨⟨[⟨13,_,some 5⟩,⟨16,_,some 8⟩,⟨20,_,some 12⟩,⟨12,_,some 4⟩],_,J,⟨J,J,J,J,aR⟩,J,J,dJ J J J J (fun hg=>fN (args:=S3) (res:=CQ) (f:=(fun(x:(List ac)×(List ac))=>alike x.1 x.2)) (x:=((e2,e3):(List ac)×(List ac))) (bD J hg) (q_rg hg) ⟨(bD J hg),(bD J hg),aR⟩)⟩,
   ⟨dv 12 4 21 13 J J J J (dP (ht J) (fun hb=>(bD J hb)) (fun hb=>(h1t hb).2) h0t),
   aR⟩⟩⟩⟩⟩⟩⟩⟩⟩⟩⟩⟩⟩⟩⟩ ?_
  refine av<|cU h rfl (fun h=>?_) (fun h=>?_)
  ·refine dR<|ay<|aw<|aF J<|zo J (nc (ht J) hI)<|bm J<|aQ<|ap ?_;exact bg (aT (ih1 (IntKind.i64.wrap (n1+(1:Int))) h) (bt J))
  ·refine bu ?_;refine ai (ai (aN ?_));refine av<|ah<|au<|aF rfl<|zo rfl (cd hJ rfl rfl bQ (.head _) (ht rfl))<|aF rfl<|bv h fun y q_y h=>zo J (Mf gR cO J (ht J) (ht J) q_y)<|bI<|bv h fun r1 q_r1 h=>E2 hy he1 q_r1 (ht J) ⟨(ht J),aR⟩ J fun e4 he2=>zo J (ei (ht J))<|aq<|cU h J (fun h=>?_) (fun h=>?_)
   ·refine ak ?_;refine ae (aD (ae (aD ?_)));refine bE<|bE ?_;cases so h;exact IE J he2 hB ⟨fun _ h=>h,aR⟩
   ·refine dR<|aw<|zo J (cd hJ J J bQ (.tail _ (.head _)) (ht J))<|aF J<|bv h fun y1 q_y1 h=>zo J (Me gR cO J (ht J) (ht J) q_y1)<|bI<|ax hJ J an J (ht J) (ht J)<|aQ<|ap ?_;exact bg (aT (ih e4 r1.2 y1 ⟨he2,h⟩) (bt J))
 ·refine bu ?_;refine ai (ai (aN ?_));refine bE ?_;cases so h;exact Lc J he1 hB ⟨fun _ h=>h,aR⟩

theorem RQ(l:(List (List ac)))(alike:((List ac)→(List ac)→Option Bool)){R:It (List (List ac))}(h:D6 l alike=some R):zK aO 179 [bR (cK) l,(dK aO Fs kN (fun(x:(List ac)×(List ac))=>alike x.1 x.2))] (fun(x:(List (List ac)))=>[bR (cK) x]) R:=by
 refine zK.of Tryz.func179 J J J fun w0 S0=>au<|yi (ht J) J fun b=>zo J (C9 (ht J))<|zo J (aJ hV)<|aq<|au<|CM (O1:=[bx d7 32 b l]) (cts:=[tV (aP b 0),bK (rT ((dK aO Fs kN (fun(x:(List ac)×(List ac))=>alike x.1 x.2)))) ()]) (caps:=[.tmp 2,.tmp 3]) J aan (UD l alike b) ⟨(ht J),(ht J),aR⟩ J fun v fp=>bm J<|aq<|ak ?_;cases so h;exact La J J

theorem RP(s:(List (List ac))){R:(List (List ac))}(h:ff s=some R):fT aO 180 [bR (cK) s] false cK 43 R:=by
 refine fT.of Tryz.func180 J J J fun w0 S0=>au<|bN false cK 43<|zo J (aJ rY)<|aq<|ah<|au<|aF J<|td gR (ht J) J fun isnil hisnil=>aq<|oG (ht J) (fun hc=>?_) (fun hc=>?_)
 ·have hx:=hisnil hc
  have h:some Ft=some R:=by simpa [ff,app,hx] using h
  refine au<|bN false cK 43<|zo J (aJ rY)<|aq<|ak<|ae ?_;cases so h;exact fQ J J
 ·refine dR<|au<|jZ (r:=cK) (ys:=Ft) (xs:=[]) gR cO J J J J J trivial J fun l c=>aF J<|bv h fun x q_x h=>cT cO J J J J gR J J (ht J) (ht J) q_x fun l1 c1=>bm J<|aq<|ak ?_;cases so h;exact fQ J J
theorem UV(s:(List (List ac))){R:(List (List ac))}(h:ff s=some R):aU aO 180 [bR (cK) s] (bR (cK) R):=(RP _ h).spec

theorem Vl(l:(List (List ac)))(columns:(List Int)){R:(List hU)×Int}(h:sG l columns=some R):aU aO 105 [bR (cK) l,mf columns] (tT [bR (fU) R.1,bH R.2]):=by
 refine KJ Tryz.func105 J J J fun w0 S0=>au<|zo J (jw J)<|zo J (aJ (show aI _ _ _ (bR (fU) ([]))from jA))<|zo J (cq)<|aq<|ah<|au<|aF J<|zo J (bB eC J J)<|bv h fun r q_r h=>zo J (aA aaX (UY _ _ q_r) ⟨(ht J),(ht J),aR⟩)<|bm J<|aq<|au<|aF J<|zo J (tE J)<|aq ?_;refine cU h J (fun h=>?_) (fun h=>?_)
 ·refine au<|aF J<|zo J (aJ (show aI _ _ _ (bR (fU) ([]))from jA))<|bm J<|aq<|ak<|ae<|rj ?_;cases so h;exact cC J J J
 ·refine dR<|au<|aF J<|bv h fun r1 q_r1 h=>iv Wq (Kq _ q_r1) ⟨(ht J),aR⟩ J fun l1 c=>bm J<|aq<|au<|aF J<|zo J ((show bO _ _ _ _ ((dK aO Fs yu (fun(x:(List ac)×(List ac))=>(mj columns) x.1 x.2)))from fW (cts:=[bK nj columns]) (caps:=[.tmp 3]) aaW ⟨(ht J),aR⟩ (fun x y h=>UX _ _ _ h)))<|bv h fun tt q_srt h=>?_;refine E3 (n:=r1.length) v6 ?_ Sk ?_ q_srt ?_ ?_ ?_ ?_ ?_
  ·rfl
  ·rfl
  ·exact(ht J)
  ·rfl
  ·exact(ht J)
  ·rfl
  intro hl
  refine oz hl 18 J<|oz hl 7 J<|oz hl 19 J<|aq<|au<|zo J ((show bO _ _ _ _ ((dK aO Fs kN (fun(x:(List ac)×(List ac))=>(gn columns) x.1 x.2)))from fW (cts:=[bK nj columns]) (caps:=[.tmp 3]) aaV ⟨(ht J),aR⟩ (fun x y h=>UW _ _ _ h)))<|bm J<|aq<|au<|bN false fU 154<|bc (x:=aS none 0 0) Ni (fun _=>Ee) J fun b=>aq<|ah<|au<|aF J<|aF J<|gX<|j8 ?_;refine jt 18 J<|jt 7 J<|jt 19 J<|jt 23 J<|bv h fun it q_it h=>GX aaU (RQ _ _ q_it) ⟨(k7 (ht J)),(ht J),aR⟩ J fun v fp=>aq<|ay<|bv h fun s q_s h=>?_;refine PZ (fun(i:Option Nat×Nat×List hU)=>[d5 cK 43 l1 c tt,bx rV 150 b (aS i.1 i.2.1 i.2.2.length),fq fU 154 i.1 i.2.1 i.2.2]) (fun(i:Option Nat×Nat×List hU)=>(i.2.2)) J (ht J) (none,0,([]:List hU)) J q_s (fun _=>J) J (fun i x s2 h lp rec1 _ _ _=>?_) (fun i hi bd=>?_)
  ·obtain⟨l2,c1,xs⟩:=i
   replace h:jW columns x xs=some s2:=h
   refine(show CG _ _ _ [vH lp rec1 .ready,d5 cK 43 l1 c tt,bx rV 150 b (aS l2 c1 xs.length),fq fU 154 l2 c1 xs] _ from ?_);refine Fg (G' :=[(0,bR (cK) l),(1,mf columns),(3,bK nj columns),(4,bR (fU) ([])),(5,bH 0),(6,bH r),(7,tO cK l1 c tt),(8,(dK aO Fs kN (fun(x:(List ac)×(List ac))=>(gn columns) x.1 x.2))),(9,tV (aP b 0)),(11,bR (cK) l),(12,mf columns),(13,bH r),(14,bH r),(15,gY (r !=(0:Int))),(17,bR (cK) l),(18,tO cK l1 c tt),(19,tO cK l1 c tt),(20,(dK aO Fs yu (fun(x:(List ac)×(List ac))=>(mj columns) x.1 x.2))),(22,(dK aO Fs kN (fun(x:(List ac)×(List ac))=>(gn columns) x.1 x.2))),(23,tO cK l1 c tt),(24,(dK aO Fs kN (fun(x:(List ac)×(List ac))=>(gn columns) x.1 x.2))),(26,bR (cK) x)]) ?_ ⟨J,J,J,J,J,J,J,J,J,J,J,J,J,J,J,J,J,J,J,J,J,J,aR⟩;refine aw<|bm J<|aQ<|SP<|ay<|bv h fun e q_e h=>bv h fun r2 q_r2 h=>bv h fun r3 q_r3 h=>?_
   refine tq 10 (ts:=[qM l2 c1 xs,bR (cK) x,bK cK e,bR (af) e,mf columns,bR (af) r2,bR (cK) x,bR (cK) r3,tD fU (⟨r2,r3⟩:hU),bR (fU) ([(⟨r2,r3⟩:hU)])]) mixed J J J
    ⟨ep 9 J J J (gU Ni (.tail _ (.tail _ (.head _))) (ht J)),
    ⟨ep 10 J J J (cD J),
    ⟨bT 28 1 J J J (bp gR cO J (ht J) hI q_e),
    ⟨bT 29 2 J J J (bB cO J J),
    ⟨ep 3 J J J (bB eC J J),
    ⟨dv 30 3 31 4 J J J J (aA KB (AR _ _ q_r2) ⟨(ht J),(ht J),aR⟩),
    ⟨ep 10 J J J (cD J),
    ⟨bT 33 6 J J J (aA aaT (UV _ q_r3) ⟨(ht J),aR⟩),
    ⟨dv 32 5 34 7 J J J J (ci (y:=(⟨r2,r3⟩:hU)) Am V5 Dy (⟨_,_,_,_,_,J,LE,J,(ht J),⟨_,_,_,_,_,J,LD,J,(ht J),J⟩⟩)),
    ⟨bT 35 8 J J J (aV (r:=fU) (ys:=[(⟨r2,r3⟩:hU)]) (xs:=[.tmp 35]) F6 Am J J J J J ⟨(ht J),aR⟩),
    aR⟩⟩⟩⟩⟩⟩⟩⟩⟩⟩ ?_
   refine qz<|bv h fun l3 q_l3 h=>cT Am J J J J F6 J J (ht J) (ht J) q_l3 fun l4 c2=>qz<|ax Ni J an J (ht J) (Rh (ht J))<|aQ<|ap<|bE<|bE<|cN<|cN ?_;exact Ld (l4,c2,l3) (so h) J
  ·skip
   obtain⟨l5,c3,xs1⟩:=i
   have hi:xs1=s:=hi
   subst hi
   refine(show AT _ _ _ [A4 bd,d5 cK 43 l1 c tt,bx rV 150 b (aS l5 c3 xs1.length),fq fU 154 l5 c3 xs1] _ from ?_);refine cM (G' :=[(0,bR (cK) l),(1,mf columns),(3,bK nj columns),(4,bR (fU) ([])),(5,bH 0),(6,bH r),(7,tO cK l1 c tt),(8,(dK aO Fs kN (fun(x:(List ac)×(List ac))=>(gn columns) x.1 x.2))),(9,tV (aP b 0)),(11,bR (cK) l),(12,mf columns),(13,bH r),(14,bH r),(15,gY (r !=(0:Int))),(17,bR (cK) l),(18,tO cK l1 c tt),(19,tO cK l1 c tt),(20,(dK aO Fs yu (fun(x:(List ac)×(List ac))=>(mj columns) x.1 x.2))),(22,(dK aO Fs kN (fun(x:(List ac)×(List ac))=>(gn columns) x.1 x.2))),(23,tO cK l1 c tt),(24,(dK aO Fs kN (fun(x:(List ac)×(List ac))=>(gn columns) x.1 x.2)))]) ?_ ⟨J,J,J,J,J,J,J,J,J,J,J,J,J,J,J,J,J,J,J,J,J,aR⟩;refine ap<|av<|au<|zo rfl (gU Ni (.tail _ (.tail _ (.head _))) (ht rfl))<|bm rfl<|zo rfl (cq)<|aq<|ak<|cN<|jb<|cw 4 rfl<|cw 38 rfl<|jd 4 rfl<|bk<|bE<|bk<|bE<|bk<|Bj<|rj ?_;cases so h;exact cC J J J

theorem Zm(b:Nat)(ix:OI)(r:cX)(n:am){R:(List (List ac))×Int}(h:i7 r n=some R):c9 aO 54 [tV (aP b 0),tD aL n] (jn b r ix) (fun _:OI=>tT [bR (cK) R.1,bH R.2]) (fun _=>(jn b r ix)):=by
 refine c9.of Tryz.func54 J J J fun w0 S0=>?_;refine(show CG _ _ _ [bx (rH eD [(1,aS (ix.h 0).1 (ix.h 0).2 r.rows.length),(2,aS (ix.h 1).1 (ix.h 1).2 r.width.length)]) 96 b r,d5 d7 32 (ix.h 0).1 (ix.h 0).2 r.rows,d5 bY 3 (ix.h 1).1 (ix.h 1).2 r.width] _ from ?_);refine au<|zo J (jw J)<|zo J (aJ (show aI _ _ _ uj from jA))<|zo J (cq)<|aq<|ah<|bv h fun e q_e h=>bv h fun r1 q_r1 h=>?_
 refine cJ (ts:=[_,_,_,_,_,_,_,_,_,_,_,_,_,_,_,_]) mixed J J
  ⟨ep 0 J J J (cD J),
  ⟨bT 17 0 J J J (dG (ht J)),
  ⟨bT 18 1 J J J (kG 1 qq J J J),
  ⟨bT 19 2 J J J (di yw J (.head _) (.tail _ (.head _)) (ht J)),
  ⟨ep 3 J J J (cY jR dX J J),
  ⟨bT 21 4 J J J (bB cv J J),
  ⟨dv 20 3 22 5 J J J J (bp p8 hJ J (k7 (ht J)) (ht J) q_e),
  ⟨bT 23 6 J J J (bB hJ J J),
  ⟨ep 3 J J J (cY uu nG J J),
  ⟨bT 25 8 J J J (bB eC J J),
  ⟨dv 24 7 26 9 J J J J (aA abn (Vl _ _ q_r1) ⟨(ht J),(ht J),aR⟩),
  ⟨bT 27 10 J J J (cD J),
  ⟨bT 16 11 J J J (hZ J J),
  ⟨bT 16 11 J J J (hZ J J),
  ⟨bT 28 12 J J J (tA J),
  ⟨bT 29 13 J J J (tA J),
  aR⟩⟩⟩⟩⟩⟩⟩⟩⟩⟩⟩⟩⟩⟩⟩⟩ ?_
 refine av<|ah<|au<|aF rfl<|zo rfl (tE rfl)<|aq<|cU h rfl (fun h=>?_) (fun h=>?_)
 ·refine au<|aF J<|zo J (aJ (show aI _ _ _ uj from jA))<|bm J<|aq<|ak<|ae<|aK<|aK<|aK ?_;cases so h;exact eg (ts:=[bR (cK) ([]),bH r1.2]) (rvs:=[.tmp 4,.tmp 5]) J J ⟨aX J,aX J,aR⟩ pm J J
 ·refine dR ?_;refine ke (Z:=fun groups=>lw n groups=some R) (Of:=fun groups=>[bx (rH eD [(1,aS (ix.h 0).1 (ix.h 0).2 r.rows.length),(2,aS (ix.h 1).1 (ix.h 1).2 r.width.length)]) 96 b r,d5 d7 32 (ix.h 0).1 (ix.h 0).2 r.rows,d5 bY 3 (ix.h 1).1 (ix.h 1).2 r.width]) (Gf:=fun groups=>[(3,bK aL n),(6,bR (fU) groups)]) (fun groups h=>?_) (fun K=>?_)
  ·skip
   refine au<|bN false cK 43<|zo J (aJ rY)<|aq<|ah<|au<|aF J<|zo J (iw F6 J)<|zo J (bJ hI)<|aq<|ay<|ba (k:=44) J fun hN=>bG ?_;refine aT (jL (Z:=fun ls i out l c=>(groups.drop i=ls)∧fC n ls out=some R) (Of:=fun _ i out l c=>[fq cK 43 l c out,bx (rH eD [(1,aS (ix.h 0).1 (ix.h 0).2 r.rows.length),(2,aS (ix.h 1).1 (ix.h 1).2 r.width.length)]) 96 b r,d5 d7 32 (ix.h 0).1 (ix.h 0).2 r.rows,d5 bY 3 (ix.h 1).1 (ix.h 1).2 r.width]) (Gf:=fun _ i out l c=>[(3,bK aL n),(8,qM l c out),(44,bR (fU) groups),(45,kg groups),(46,bH (i:Int))]) (fun i out l c h=>?_) (fun e1 tl ih i out l c h=>?_) groups 0 Ft none 0 ⟨J,h⟩) (bt J)
   ·obtain⟨hx,h⟩:=h
    refine aC<|au<|zo J (fG J J)<|aq<|ah<|bA (ht J) (dC hx)<|bu ?_;refine ai (ai (aN ?_));refine av<|au<|aF rfl<|bm rfl<|zo rfl (cq)<|aq<|ak<|jb<|cw 8 rfl<|cw 80 rfl<|cw 4 rfl<|jd 4 rfl<|bk<|aK<|aK<|aK ?_;cases so h;exact eg (ts:=[bR (cK) out,bH 0]) (rvs:=[.tmp 4,.tmp 5]) J J ⟨aX J,aX J,aR⟩ pm J J
   ·obtain⟨hx,h⟩:=h
    refine aC<|au<|zo J (fG J J)<|aq<|ah<|bz (ht J) (du hx)<|dR<|ah<|ay<|au<|zo J (lq F6 Am J J J (cW hx))<|zo J (bB Am J J)<|bc (r:=fU) (x:=SU) Am (fun _=>Dy _) J fun b1=>ax Am J an J (ht J) (ht J)<|aZ 10 J<|aq<|au<|zo J (cY TV Mq J J) ?_;refine zo J (bB cO J J)<|bv h fun r2 q_r2 h=>iv Sn (EM _ q_r2) ⟨(ht J),aR⟩ J fun l1 c1=>bm J<|aq<|ah<|au<|zo J (cY s5 qn J J)<|zo J (bB DL J J)<|zo J (iw z6 J)<|zo J (bJ hI)<|aq<|ay<|ba (k:=54) J fun hN1=>bG<|kL<|kL<|kL<|pg<|kL ?_;refine aT (jL (Z:=fun ls1 i1 x l2 c2=>(n.Aggs.drop i1=ls1)∧iC (fC n tl) e1 out ls1 x=some R) (Of:=fun _ i1 x l2 c2=>[fq cK 43 l c out,fq af 46 l2 c2 x,bx (rH eD [(1,aS (ix.h 0).1 (ix.h 0).2 r.rows.length),(2,aS (ix.h 1).1 (ix.h 1).2 r.width.length)]) 96 b r,d5 d7 32 (ix.h 0).1 (ix.h 0).2 r.rows,d5 bY 3 (ix.h 1).1 (ix.h 1).2 r.width]) (Gf:=fun _ i1 x l2 c2=>[(3,bK aL n),(8,qM l c out),(10,bK fU e1),(11,qM l2 c2 x),(44,bR (fU) groups),(45,kg groups),(46,bH (i:Int)),(54,bR (gm) n.Aggs),(55,kg n.Aggs),(56,bH (i1:Int))]) (fun i1 x l2 c2 h=>?_) (fun e2 tl1 ih1 i1 x l2 c2 h=>?_) n.Aggs 0 r2 l1 c1 ⟨J,h⟩) (bt J)
    ·obtain⟨hx1,h⟩:=h
     refine aC<|au<|zo J (fG J J)<|aq<|ah<|bA (ht J) (dC hx1)<|bu ?_;refine ai (ai (aN ?_));refine av<|aw<|aF rfl<|aF rfl<|bI<|j8<|jt 11 rfl<|jt 76 rfl<|zo rfl (aV (r:=cK) (ys:=[x]) (xs:=[.tmp 76]) gR cO J J J J J ⟨(k7 (ht J)),aR⟩)<|bI<|bv h fun out1 q_out1 h=>cT cO J J J J gR J J (ht J) (ht J) q_out1 fun l3 c3=>bm J<|aQ<|ap<|av<|aw<|zo rfl (mI (cQ hx hN) rfl)<|aF rfl<|aQ<|bE<|bk ?_;exact bg (aT (ih (i+1) out1 l3 c3 ⟨cP hx,h⟩) (bt J))
    ·obtain⟨hx1,h⟩:=h
     refine aC<|au<|zo J (fG J J)<|aq<|ah<|bz (ht J) (du hx1)<|dR<|ah<|ay<|au<|zo J (lq z6 wu J J J (cW hx1))<|zo J (bB wu J J)<|bc (r:=gm) (x:=(⟨(0:Int),Br⟩:hY)) wu (fun _=>Hd _) J fun b2=>ax wu J an J (ht J) (ht J)<|aZ 13 J<|aq<|au<|zo J (bB wu J J) ?_;refine zo J (cY TU Mp J J)<|zo J (bB hJ J J)<|bv h fun r3 q_r3 h=>zo J (aA abY (XH _ _ q_r3) ⟨(ht J),(ht J),aR⟩)<|aF J<|zo J (hZ J J)<|zo J (hZ J J)<|bc (r:=af) (x:=hX) aH (fun _=>bf _) J fun b3=>ax aH J an J (ht J) (ht J)<|aZ 14 J<|bm J<|aq<|ah<|au<|aF J<|zo J (tE J)<|aq<|cU h J (fun h=>?_) (fun h=>?_)
     ·refine au<|aF J<|zo J (aJ (show aI _ _ _ uj from jA))<|bm J<|aq<|ak ?_;refine ae (aD (ae (ae (aD (ae (aD (ae (ae (aD (ae ?_))))))))));refine bk<|bk<|aK<|aK<|aK ?_;cases so h;exact eg (ts:=[bR (cK) ([]),bH r3.2]) (rvs:=[.tmp 4,.tmp 5]) J J ⟨aX J,aX J,aR⟩ pm J J
     ·refine dR<|aw<|aF J<|zo J (bB aH J J)<|zo J (aV (r:=af) (ys:=[r3.1]) (xs:=[.tmp 71]) gc aH J J J J J ⟨(ht J),aR⟩)<|bI<|bv h fun x1 q_x1 h=>cT aH J J J J gc J J (ht J) (ht J) q_x1 fun l4 c4=>bm J<|aQ<|ap<|av<|aw<|zo rfl (mI (cQ hx1 hN1) rfl)<|aF rfl<|aQ<|fz<|fz<|fz<|cN<|fz ?_;exact bg (aT (ih1 (i1+1) x1 l4 c4 ⟨cP hx1,h⟩) (bt J))
  ·skip
   refine au<|zo J (cY uu nG J J)<|zo J (bB eC J J)<|zo J (iw g9 J)<|zo J (lU J)<|aF J<|cR J J (fun hg=>cD J)<|cR J J (fun hg=>dW F6 (bD J hg))<|cR J J (fun hg=>dd (bD J hg) hI)<|zo J (rE J J)<|aq<|cU h J (fun h=>?_) (fun h=>?_)
   ·refine aw<|zo J (ci (y:=SU) Am V5 Dy (J))<|zo J (aV (r:=fU) (ys:=[SU]) (xs:=[.tmp 42]) F6 Am J J J J J ⟨(ht J),aR⟩)<|bm J<|aQ ?_;exact cM (K ([SU]) h) (bt J)
   ·refine bw ?_;exact cM (K r1.1 h) (bt J)

end Go.Proofs.YtfhhakidodmdfaaGreatDoor

