/- da of this claim: P16. -/
import Derived.Test.YtfhhakidodmdfaaGreatDoorJdT
import Derived.Test.YtfhhakidodmdfaaGreatDoorJdP15
set_option linter.all false
namespace Go.Proofs.YtfhhakidodmdfaaGreatDoor
open Go
set_option maxRecDepth 100000

theorem RH(a1:(List ac))(b:(List ac))(order:(List dn)){R:Bool}(h:nu a1 b order=some R):aU aO 32 [bR (af) a1,bR (af) b,bR (d3) order] (gY R):=by
 refine aU.of Tryz.func32 J J J fun w0 S0=>au<|zo J (jE)<|aq<|ah<|au<|zo J (cq)<|aq<|ay<|ba (k:=2) J fun hN=>bG ?_;refine aT (eH (Z:=fun ls i=>(order.drop i=ls)∧jj a1 b ls=some R) (Of:=fun _ i=>[]) (Gf:=fun _ i=>[(0,bR (af) a1),(1,bR (af) b),(2,bR (d3) order),(7,bH (i:Int))]) (fun i h=>?_) (fun e tl ih i h=>?_) order 0 ⟨J,h⟩) (bt J)
 ·obtain⟨hx,h⟩:=h
  refine aC<|ah<|au<|aF J<|aF J<|zo J (iw uC J)<|zo J (fG J J)<|aq<|bA (ht J) (dC hx)<|bu ?_;refine ai (ai (aN ?_));refine av<|au<|aF rfl<|aF rfl<|bv h fun r q_r h=>zo J (aA ZD (RC _ _ q_r) ⟨(ht J),(ht J),aR⟩)<|zo J (fa (ht J) hI)<|bm J<|aq<|ak ?_;cases so h;exact aG J J
 ·obtain⟨hx,h⟩:=h
  refine aC<|ah<|au<|aF J<|aF J<|zo J (iw uC J)<|zo J (fG J J)<|aq<|bz (ht J) (du hx)<|dR<|ah<|ay<|ah<|bv h fun e1 q_e1 h=>bv h fun e2 q_e2 h=>bv h fun r1 q_r1 h=>?_
  refine cJ (ts:=[_,_,_,_,_,_,_,_,_,_,_,_,_,_,_,_,_,_]) mixed J J
   ⟨ep 0 J J J (cD J),
   ⟨ep 2 J J J (cD J),
   ⟨ep 7 J J J (cD J),
   ⟨dv 16 1 17 2 J J J J (lq uC zg J J J (cW hx)),
   ⟨bT 18 3 J J J (cY uv ow J J),
   ⟨bT 19 4 J J J (bB cv J J),
   ⟨dv 15 0 20 5 J J J J (lq gc aH J J J q_e1),
   ⟨bT 21 6 J J J (bB aH J J),
   ⟨ep 1 J J J (cD J),
   ⟨ep 2 J J J (cD J),
   ⟨ep 7 J J J (cD J),
   ⟨dv 24 9 25 10 J J J J (lq uC zg J J J (cW hx)),
   ⟨bT 26 11 J J J (cY uv ow J J),
   ⟨bT 27 12 J J J (bB cv J J),
   ⟨dv 23 8 28 13 J J J J (lq gc aH J J J q_e2),
   ⟨bT 29 14 J J J (bB aH J J),
   ⟨dv 22 7 30 15 J J J J (aA ZB (Rz _ _ q_r1) ⟨(ht J),(ht J),aR⟩),
   ⟨bT 31 16 J J J (tA J),
   aR⟩⟩⟩⟩⟩⟩⟩⟩⟩⟩⟩⟩⟩⟩⟩⟩⟩⟩ ?_
  refine av ?_;refine ke (Z:=fun n=>nt (jj a1 b tl) n=some R) (Of:=fun n=>[]) (Gf:=fun n=>[(0,bR (af) a1),(1,bR (af) b),(2,bR (d3) order),(7,bH (i:Int)),(8,bH n)]) (fun n h=>?_) (fun K=>?_)
  ·skip
   refine au<|aF J<|zo J (tE J)<|aq<|cU h J (fun h=>?_) (fun h=>?_)
   ·refine au<|aF J<|zo J (fa (ht J) hI)<|bm J<|aq<|ak ?_;refine aD (ae (ae (aD (ae ?_))));cases so h;exact aG J J
   ·refine bw<|ap<|av<|aw<|aF rfl<|zo rfl (mI (cQ hx hN) rfl)<|bm rfl<|aQ ?_;exact bg (aT (ih (i+1) ⟨cP hx,h⟩) (bt J))
  ·skip
   refine au<|aF J<|aF J<|zo J (lq uC zg J J J (cW hx))<|zo J (cY Ru Kh J J)<|zo J (bB IF J J)<|aq<|cU h J (fun h=>?_) (fun h=>?_)
   ·refine aw<|aF J<|zo J (gK hI (ht J))<|bm J<|aQ ?_;exact cM (K (IntKind.i64.wrap ((0:Int)-r1)) h) (bt J)
   ·refine bw ?_;exact cM (K r1 h) (bt J)

theorem T4(l:(List (List ac)))(order:(List dn))(limit:Int){R:(List (List ac))}(h:sH l order limit=some R):fT aO 34 [bR (cK) l,bR (d3) order,bH limit] false cK 43 R:=by
 refine fT.of Tryz.func34 J J J fun w0 S0=>au<|bN false cK 43<|zo J (aJ rY)<|aq<|au<|bN false cK 43<|zo J (aJ rY)<|aq<|ah<|au<|zo J (cq)<|aq<|ay<|ba (k:=0) J fun hN=>bG<|iF<|pU ?_;refine aT (jL (Z:=fun ls i out l1 c=>(l.drop i=ls)∧jX order limit ls out=some R) (Of:=fun _ i out l1 c=>[fq cK 43 l1 c out]) (Gf:=fun _ i out l1 c=>[(0,bR (cK) l),(1,bR (d3) order),(2,bH limit),(7,qM l1 c out),(8,bH (i:Int))]) (fun i out l1 c h=>?_) (fun e tl ih i out l1 c h=>?_) l 0 Ft none 0 ⟨J,h⟩) (bt J)
 ·obtain⟨hx,h⟩:=h
  refine aC<|ah<|au<|aF J<|aF J<|zo J (iw gR J)<|zo J (fG J J)<|aq<|bA (ht J) (dC hx)<|bu ?_;refine ai (ai (aN ?_));refine av<|ah<|au<|aF rfl<|zo rfl (hT (ht rfl) hI)<|aF rfl<|cR rfl rfl (fun hg=>cD J)<|cR J J (fun hg=>cD J)<|cR J J (fun hg=>io gR (.head _) (bD J hg))<|cR J J (fun hg=>fa (bD J hg) (bD J hg))<|zo J (rE J J)<|aq<|cU h J (fun h=>?_) (fun h=>?_)
  ·refine au<|aF J<|aF J<|bv h fun y q_y h=>zo J (jY gR cO J (.head _) (ht J) (ht J) q_y)<|uy q_y<|bm J<|aq<|ak<|ae ?_;cases so h;exact fQ J J
  ·refine dR<|au<|aF J<|bm J<|aq<|ak ?_;cases so h;exact fQ J J
 ·obtain⟨hx,h⟩:=h
  refine aC<|ah<|au<|aF J<|aF J<|zo J (iw gR J)<|zo J (fG J J)<|aq<|bz (ht J) (du hx)<|dR<|ah<|ay<|au<|zo J (cq)<|aq<|ah<|ay<|bG ?_;refine aT (Dn (Z:=fun n at1=>oj order (jX order limit tl) e out n at1=some R) (Of:=fun at1=>[fq cK 43 l1 c out]) (Gf:=fun at1=>[(0,bR (cK) l),(1,bR (d3) order),(2,bH limit),(7,qM l1 c out),(8,bH (i:Int)),(9,bH at1)]) (fun at1 h=>nn h) (fun n ih1 at1 h=>?_) ge (0:Int) h) (bt J);refine aC<|ah<|ah<|bv h fun t q_t h=>?_
  obtain⟨e1,h1t,h0t⟩:=og q_t
  have q_e1g:=fun hb=>(h1t hb).1
  obtain⟨r,h1t⟩:=Tv (fun hb=>(h1t hb).2)
  have q_rg:=fun hb=>(h1t hb).1
  refine cJ (ts:=[_,_,_,_,_,_,_,_,_,_,_,_,_,_,_,_,_]) mixed J J
   ⟨ep 9 J J J (cD J),
   ⟨ep 7 J J J (cD J),
   ⟨bT 18 1 J J J (io gR (.head _) (ht J)),
   ⟨dv 17 0 19 2 J J J J (fG J J),
   ⟨bT 20 3 J J J (cD J),
   ⟨pZ 0 21 4 J J J J (dJ J J J J (fun hg=>cD J)),
   ⟨pZ 8 21 4 J J J J (dJ J J J J (fun hg=>cD J)),
   ⟨tF 22 5 23 6 21 4 J J J J J (dJ J J J J (fun hg=>bp gR cO J (bD J hg) (bD J hg) (cW hx))),
   ⟨kO 24 7 21 4 J J J J (dJ J J J J (fun hg=>bM cO J J (bD J hg))),
   ⟨pZ 7 21 4 J J J J (dJ J J J J (fun hg=>cD J)),
   ⟨pZ 9 21 4 J J J J (dJ J J J J (fun hg=>cD J)),
   ⟨tF 26 9 27 10 21 4 J J J J J (dJ J J J J (fun hg=>ca gR cO (.head _) (bD J hg) (bD J hg) (q_e1g hg))),
   ⟨kO 28 11 21 4 J J J J (dJ J J J J (fun hg=>fM (r:=cK) (i:=at1) (foff:=0) cO J J bQ J (.head _) (q_e1g hg) (bD J hg))),
   ⟨pZ 1 21 4 J J J J (dJ J J J J (fun hg=>cD J)),
   ⟨⟨[⟨25,_,some 8⟩,⟨29,_,some 12⟩,⟨30,_,some 13⟩,⟨21,_,some 4⟩],_,J,⟨J,J,J,J,aR⟩,J,J,dJ J J J J (fun hg=>aA Z6 (RH _ _ _ (q_rg hg)) ⟨(bD J hg),(bD J hg),(bD J hg),aR⟩)⟩,
   ⟨kO 31 14 21 4 J J J J (dJ J J J J (fun hg=>ei (bD J hg))),
   ⟨dv 21 4 32 15 J J J J (dP (ht J) (fun hb=>(bD J hb)) (fun hb=>(h1t hb).2) h0t),
   aR⟩⟩⟩⟩⟩⟩⟩⟩⟩⟩⟩⟩⟩⟩⟩⟩⟩ ?_
  refine av<|cU h rfl (fun h=>?_) (fun h=>?_)
  ·refine dR<|ay<|aw<|aF J<|zo J (nc (ht J) hI)<|bm J<|aQ<|ap ?_;exact bg (aT (ih1 (IntKind.i64.wrap (at1+(1:Int))) h) (bt J))
  ·refine bu ?_;refine ai (ai (aN ?_));refine av<|au<|aF rfl<|zo rfl (aV (r:=cK) (ys:=[[]]) (xs:=[.const (.slice none 0 0)]) gR cO J J J J J ⟨jA,aR⟩)<|bv h fun out1 q_out1 h=>cT cO J J J J gR J J (ht J) (ht J) q_out1 fun l2 c1=>bm J<|aq<|ah<|au<|aF J<|zo J (io gR (.head _) (ht J))<|zo J (gK (ht J) hI)<|bm J<|aq<|ay<|bG ?_;refine aT (OQ (Z:=fun n1 out2 k=>mY (jX order limit tl) e at1 n1 out2 k=some R) (Of:=fun out2 k=>[fq cK 43 l2 c1 out2]) (Gf:=fun out2 k=>[(0,bR (cK) l),(1,bR (d3) order),(2,bH limit),(7,qM l2 c1 out2),(8,bH (i:Int)),(9,bH at1),(10,bH k)]) (fun out2 k h=>nn h) (fun n1 ih2 out2 k h=>?_) ge out1 (IntKind.i64.wrap ((out1.length:Int)-(1:Int))) h) (bt J);refine aC<|ah<|au<|aF J<|aF J<|zo J (jm (ht J) (ht J))<|aq<|cU h J (fun h=>?_) (fun h=>?_)
   ·refine dR<|ah<|ay<|aw<|aF J<|aF J<|aF J<|aF J<|zo J (gK (ht J) hI)<|bv h fun e2 q_e2 h=>zo J (ca gR cO (.head _) (ht J) (ht J) q_e2)<|zo J (fM (r:=cK) (i:=(IntKind.i64.wrap (k-(1:Int)))) (foff:=0) cO J J bQ J (.head _) q_e2 (ht J))<|bv h fun e3 q_e3 h=>zo J (ca gR cO (.head _) (ht J) (ht J) q_e3)<|bv h fun st q_st h=>pf cO J an J q_e3 (so q_st) (ht J) (ht J)<|fy (jx (so q_st)) 7 J<|fy (jx (so q_st)) 47 J<|fy (jx (so q_st)) 49 J<|aQ<|ap<|av<|aw ?_;refine aF J<|zo J (gK (ht J) hI)<|bm J<|aQ ?_;exact bg (aT (ih2 st (IntKind.i64.wrap (k-(1:Int))) h) (bt J))
   ·refine bu ?_;refine ai (ai (aN ?_));refine av<|aw<|aF rfl<|aF rfl<|aF rfl<|aF rfl<|zo rfl (lq gR cO rfl rfl rfl (cW hx))<|zo rfl (bB cO rfl rfl)<|bv h fun e4 q_e4 h=>zo J (ca gR cO (.head _) (ht J) (ht J) q_e4)<|bv h fun st1 q_st1 h=>pf cO J an J q_e4 (so q_st1) (ht J) (ht J)<|fy (jx (so q_st1)) 7 J<|fy (jx (so q_st1)) 55 J<|aQ<|ap<|av<|aw<|aF rfl<|zo rfl (mI (cQ hx hN) rfl)<|bm rfl<|aQ ?_;exact bg (aT (ih (i+1) st1 l2 c1 ⟨cP hx,h⟩) (bt J))
theorem XP(l:(List (List ac)))(order:(List dn))(limit:Int){R:(List (List ac))}(h:sH l order limit=some R):aU aO 34 [bR (cK) l,bR (d3) order,bH limit] (bR (cK) R):=(T4 _ _ _ h).spec

end Go.Proofs.YtfhhakidodmdfaaGreatDoor

