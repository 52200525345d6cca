/- da of this claim: P6. -/
import Derived.Test.YtfhhakidodmdfaaGreatDoorJdT
import Derived.Test.YtfhhakidodmdfaaGreatDoorJdP5
set_option linter.all false
namespace Go.Proofs.YtfhhakidodmdfaaGreatDoor
open Go
set_option maxRecDepth 100000

theorem Uf(a1:Int)(b:Int){R:Int×Bool}(h:pe a1 b=some R):aU aO 332 [bH a1,bH b] (tT [bH R.1,gY R.2]):=by
 refine aU.of Tryz.func332 J J J fun w0 S0=>au<|zo J (cq)<|zo J (jE)<|aq<|au<|aF J<|aF J<|zo J (gK (ht J) (ht J))<|bm J<|aq<|au<|aF J<|aF J<|aF J<|zo J (BG (ht J) (ht J))<|aF J<|aF J<|zo J (BG (ht J) (ht J)) ?_;refine zo J (BI (ht J) (ht J))<|zo J (hT (ht J) hI)<|bm J<|bm J<|aq<|ak ?_;cases so h;exact cC J J J

theorem N9(a1:ac)(b:ac){R:ac×Int}(h:vf a1 b=some R):aU aO 268 [tD af a1,tD af b] (tT [tD af R.1,bH R.2]):=by
 refine aU.of Tryz.func268 J J J fun w0 S0=>au<|zo J (jw J)<|zo J (jw J)<|bc (r:=af) (x:=hX) aH (fun _=>bf _) J fun b1=>zo J (cq)<|aq<|au<|zo J (bB aH J J)<|zo J (bB aH J J)<|bv h fun r q_r h=>zo J (aA Ox (De _ _ _ q_r) ⟨(ht J),(ht J),(yX ZX fun x y h=>Uf _ _ h),aR⟩)<|zo J (hZ J J)<|zo J (hZ J J)<|ax aH J an J (ht J) (ht J)<|aZ 4 J<|bm J<|aq<|ak ?_;cases so h;exact bS J J ⟨br aH J J J,aX J,aR⟩

theorem UB(a1:ac){R:ac×Int}(h:yd a1=some R):aU aO 264 [tD af a1] (tT [tD af R.1,bH R.2]):=by
 refine aU.of Tryz.func264 J J J fun w0 S0=>au<|zo J (jw J)<|bc (r:=af) (x:=hX) aH (fun _=>bf _) J fun b=>zo J (cq)<|aq<|ah<|bv h fun r q_r h=>bv h fun r1 q_r1 h=>?_
 refine tq 5 (ts:=[tD af r,tD af a1,tT [tD af r1.1,bH r1.2],tD af r1.1,bH r1.2]) mixed J J J
  ⟨OX J J (aA KC (AS _ q_r) ⟨hI,aR⟩),
  ⟨ep 1 J J J (bB aH J J),
  ⟨dv 4 0 5 1 J J J J (aA Wk (N9 _ _ q_r1) ⟨(ht J),(ht J),aR⟩),
  ⟨bT 6 2 J J J (hZ J J),
  ⟨bT 6 2 J J J (hZ J J),
  aR⟩⟩⟩⟩⟩ ?_
 refine ax aH J an J (ht J) (ht J)<|aZ 2 J<|bm J<|aq<|ak ?_;cases so h;exact bS J J ⟨br aH J J J,aX J,aR⟩

theorem TZ(v:ac){R:Int}(h:wQ v=some R):aU aO 365 [tD af v] (bH R):=by
 refine aU.of Tryz.func365 J J J fun w0 S0=>au<|zo J (jw J)<|zo J (cq)<|aq<|ah<|au<|zo J (cY fR cg J J)<|zo J (bB cv J J)<|zo J (lU J)<|aq<|cU h J (fun h=>?_) (fun h=>?_)
 ·refine au<|zo J (cq)<|aq<|ak<|ae ?_;cases so h;exact aG J J
 ·refine dR<|au<|zo J (cY iZ dm J J)<|zo J (bB Bl J J)<|zo J (zy hI (ht J))<|bm J<|aq<|ak ?_;cases so h;exact aG J J

theorem Ib(to1:((List Int)→Option Int))(l:(List ac)){R:ac×Int}(h:nl to1 l=some R):aU aO 327 [(dK aO (fun(x:(List Int))=>[mf x]) yu (fun(x:(List Int))=>to1 x)),bR (af) l] (tT [tD af R.1,bH R.2]):=by
 refine aU.of Tryz.func327 J J J fun w0 S0=>au<|bc (r:=af) (x:=hX) aH (fun _=>bf _) J fun b=>zo J (cq)<|aq<|ah<|au<|aF J<|bv h fun r q_r h=>zo J (aA Wb (N1 _ q_r) ⟨(ht J),aR⟩)<|bm J<|aq<|au<|aF J<|zo J (tE J)<|aq<|cU h J (fun h=>?_) (fun h=>?_)
 ·refine au<|zo J (ci (y:=hX) aH pL bf (J))<|aF J<|ax aH J an J (ht J) (ht J)<|bm J<|aq<|ak<|ae<|bn 4 J ?_;cases so h;exact bS J J ⟨br aH J J J,aX J,aR⟩
 ·refine dR<|au<|bN false bY 3<|zo J (aJ rY)<|aq<|ah<|au<|aF J<|zo J (iw j3 J)<|zo J (bJ hI)<|aq<|ay<|ba (k:=16) J fun hN=>bG ?_;refine aT (tp (Z:=fun ls i n l1 c x=>(l.drop i=ls)∧lA to1 ls n x=some R) (Of:=fun _ i n l1 c x=>[fq bY 3 l1 c n,bx af 46 b x]) (Gf:=fun _ i n l1 c x=>[(0,(dK aO (fun(x:(List Int))=>[mf x]) yu (fun(x:(List Int))=>to1 x))),(4,tV (aP b 0)),(7,qM l1 c n),(16,bR (af) l),(17,kg l),(18,bH (i:Int))]) (fun i n l1 c x h=>?_) (fun e tl ih i n l1 c x h=>?_) l 0 uI none 0 hX ⟨J,h⟩) (bt J)
  ·obtain⟨hx,h⟩:=h
   refine aC<|au<|zo J (fG J J)<|aq<|ah<|bA (ht J) (dC hx)<|bu ?_;refine ai (ai (aN ?_));refine av<|au<|aF rfl<|aF rfl<|j8<|jt 7 rfl<|jt 33 rfl<|bv h fun r1 q_r1 h=>zo J (fN (args:=(fun(x:(List Int))=>[tD wN x])) (res:=Qj) (f:=(fun(x:(List Int))=>to1 x)) (x:=((n):(List Int))) (ht J) q_r1 ⟨(k7 (ht J)),aR⟩)<|bv h fun e1 q_e1 h=>zo J (PT (r:=ur af 3) (x:=gv2) gm2 gr2 (FQ Tryz.underlying344 aH J Zb (ht J) q_e1))<|zo J (bB aH J J)<|bI<|ax aH J an J (ht J) (ht J)<|zo J (cq)<|aq<|ak<|bn 4 J<|bk ?_;cases so h;exact bS J J ⟨br aH J J J,aX J,aR⟩
  ·obtain⟨hx,h⟩:=h
   refine aC<|au<|zo J (fG J J)<|aq<|ah<|bz (ht J) (du hx)<|dR<|ah<|ay<|au<|zo J (lq j3 aH J J J (cW hx))<|zo J (bB aH J J)<|bc (r:=af) (x:=hX) aH (fun _=>bf _) J fun b1=>ax aH J an J (ht J) (ht J)<|aZ 9 J<|aq<|ah<|au ?_;refine zo J (cY fR cg J J)<|zo J (bB cv J J)<|zo J (jm (ht J) hI)<|aq<|cU h J (fun h=>?_) (fun h=>?_)
   ·refine au<|zo J (ci (y:=hX) aH pL bf (J))<|bI<|ax aH J an J (ht J) (ht J)<|zo J (cq)<|aq<|ak ?_;refine ae (aD (ae (ae (aD (ae ?_)))));refine bn 4 J<|bk ?_;cases so h;exact bS J J ⟨br aH J J J,aX J,aR⟩
   ·refine dR<|aw<|aF J<|zo J (bB aH J J)<|bv h fun r2 q_r2 h=>zo J (aA ZJ (TZ _ q_r2) ⟨(ht J),aR⟩)<|zo J (aV (r:=bY) (ys:=[r2]) (xs:=[.tmp 28]) g9 cv J J J J J ⟨(ht J),aR⟩)<|bv h fun n1 q_n1 h=>cT cv J J J J g9 J J (ht J) (ht J) q_n1 fun l2 c1=>bm J<|aQ<|ap<|av<|aw<|zo rfl (mI (cQ hx hN) rfl)<|aF rfl<|aQ ?_;exact bg (aT (ih (i+1) n1 l2 c1 x ⟨cP hx,h⟩) (bt J))

theorem Ui(l:(List Int)){R:Int}(h:Cm l=some R):aU aO 328 [mf l] (bH R):=by
 refine aU.of Tryz.func328 J J J fun w0 S0=>au<|zo J (cq)<|aq<|au<|aF J<|bv h fun e q_e h=>zo J (bp g9 cv J (ht J) hI q_e)<|zo J (bB cv J J)<|zo J (gK hI (ht J))<|bm J<|aq<|ak ?_;cases so h;exact aG J J

theorem Oc(a1:ac){R:ac×Int}(h:qa a1=some R):aU aO 265 [tD af a1] (tT [tD af R.1,bH R.2]):=by
 refine aU.of Tryz.func265 J J J fun w0 S0=>au<|zo J (jw J)<|bc (r:=af) (x:=hX) aH (fun _=>bf _) J fun b=>zo J (cq)<|aq<|au<|zo J (bB aH J J)<|zo J (aV (r:=af) (ys:=[a1]) (xs:=[.tmp 4]) j3 aH J J J J J ⟨(ht J),aR⟩)<|bv h fun r q_r h=>zo J (aA R9 (Ib _ _ q_r) ⟨(yX Z0 fun x y h=>Ui _ h),(ht J),aR⟩)<|zo J (hZ J J)<|zo J (hZ J J)<|ax aH J an J (ht J) (ht J)<|aZ 2 J<|bm J<|aq<|ak ?_;cases so h;exact bS J J ⟨br aH J J J,aX J,aR⟩

theorem Uh(is1:Bool)(a1:ac)(x:ac){R:ac×Int}(h:nH is1 a1 x=some R):aU aO 329 [tD af a1,tD af x,bK rB is1] (tT [tD af R.1,bH R.2]):=by
 refine aU.of Tryz.func329 J J J fun w0 S0=>au<|zo J (jw J)<|zo J (jw J)<|bc (r:=af) (x:=hX) aH (fun _=>bf _) J fun b=>zo J (cq)<|aq<|au<|zo J (cY fR cg J J)<|zo J (bB cv J J)<|zo J (lU J)<|zo J (bB IF J J)<|zo J (Tq IR (ht J) (ht J))<|bv h fun r q_r h=>zo J (aA Sf (Ig _ q_r) ⟨(ht J),aR⟩)<|ax aH J an J (ht J) (ht J)<|aZ 5 J<|zo J (cq)<|aq<|ak ?_;cases so h;exact bS J J ⟨br aH J J J,aX J,aR⟩

theorem Oa(is1:Bool){R:(ac→ac→Option (ac×Int))}(h:BQ is1=some R):aU aO 266 [gY is1] ((dK aO pX sx (fun(x:ac×ac)=>R x.1 x.2))):=by
 refine aU.of Tryz.func266 J J J fun w0 S0=>au<|zo J (jw J)<|zo J (aJ hV)<|aq<|au<|zo J ((show bO _ _ _ _ ((dK aO pX sx (fun(x:ac×ac)=>(nH is1) x.1 x.2)))from fW (cts:=[bK rB is1]) (caps:=[.tmp 1]) ZZ ⟨(ht J),aR⟩ (fun x y h=>Uh _ _ _ h)))<|bm J<|aq<|ak ?_;cases so h;exact aG J J

theorem Ug(a1:Int)(b:Int){R:Int×Bool}(h:re a1 b=some R):aU aO 331 [bH a1,bH b] (tT [bH R.1,gY R.2]):=by
 refine aU.of Tryz.func331 J J J fun w0 S0=>au<|zo J (cq)<|zo J (jE)<|aq<|au<|aF J<|aF J<|zo J (nc (ht J) (ht J))<|bm J<|aq<|au<|aF J<|aF J<|aF J<|zo J (BG (ht J) (ht J))<|aF J<|aF J<|zo J (BG (ht J) (ht J)) ?_;refine zo J (BI (ht J) (ht J))<|zo J (hT (ht J) hI)<|bm J<|bm J<|aq<|ak ?_;cases so h;exact cC J J J

theorem UA(a1:ac)(b:ac){R:ac×Int}(h:B2 a1 b=some R):aU aO 267 [tD af a1,tD af b] (tT [tD af R.1,bH R.2]):=by
 refine aU.of Tryz.func267 J J J fun w0 S0=>au<|zo J (jw J)<|zo J (jw J)<|bc (r:=af) (x:=hX) aH (fun _=>bf _) J fun b1=>zo J (cq)<|aq<|au<|zo J (bB aH J J)<|zo J (bB aH J J)<|bv h fun r q_r h=>zo J (aA Ox (De _ _ _ q_r) ⟨(ht J),(ht J),(yX ZY fun x y h=>Ug _ _ h),aR⟩)<|zo J (hZ J J)<|zo J (hZ J J)<|ax aH J an J (ht J) (ht J)<|aZ 4 J<|bm J<|aq<|ak ?_;cases so h;exact bS J J ⟨br aH J J J,aX J,aR⟩

theorem Ud(p:Int)(y:Int){R:Int×Int}(h:mL p y=some R):aU aO 334 [tD He p,tD He y] (tT [tD He R.1,tD He R.2]):=by
 refine aU.of Tryz.func334 J J J fun w0 S0=>au<|zo J (cq)<|zo J (cq)<|aq<|au<|aF J<|zo J (BI (ht J) hI)<|bm J<|aq<|au<|aF J<|zo J (BH (ht J) hI (by decide))<|bm J<|aq<|au<|aF J ?_;refine zo J (BI (ht J) hI)<|bm J<|aq<|au<|aF J<|zo J (BH (ht J) hI (by decide))<|bm J<|aq<|au<|aF J<|aF J<|zo J (zy (ht J) (ht J))<|bm J<|aq<|au<|aF J<|aF J<|zo J (zy (ht J) (ht J)) ?_;refine aF J<|zo J (BH (ht J) hI (by decide))<|zo J (nc (ht J) (ht J))<|bm J<|aq<|au<|aF J<|zo J (BI (ht J) hI)<|bm J<|aq<|au<|aF J<|zo J (BH (ht J) hI (by decide))<|bm J<|aq<|au<|aF J<|aF J ?_;refine aF J<|zo J (zy (ht J) (ht J))<|zo J (nc (ht J) (ht J))<|bm J<|aq<|au<|aF J<|aF J<|zo J (zy (ht J) (ht J))<|aF J<|zo J (nc (ht J) (ht J))<|aF J<|zo J (BH (ht J) hI (by decide))<|zo J (nc (ht J) (ht J))<|bm J<|aq<|au<|aF J<|aF J<|zo J (zy (ht J) (ht J)) ?_;refine bm J<|aq<|ak ?_;cases so h;exact cC J J J

theorem Dd(n:Int){R:Int}(h:oZ n=some R):aU aO 335 [bH n] (tD He R):=by
 refine aU.of Tryz.func335 J J J fun w0 S0=>au<|zo J (cq)<|aq<|ah<|au<|aF J<|zo J (fa (ht J) hI)<|aq<|cU h J (fun h=>?_) (fun h=>?_)
 ·refine au<|aF J<|zo J (rR zZ Aa (ht J))<|zo J (HP (ht J))<|bm J<|aq<|ak<|ae ?_;cases so h;exact aG J J
 ·refine dR<|au<|aF J<|zo J (rR zZ Aa (ht J))<|bm J<|aq<|ak ?_;cases so h;exact aG J J

theorem N2(u:Int)(below:Bool){R:Int×Bool}(h:mF u below=some R):aU aO 336 [tD He u,gY below] (tT [bH R.1,gY R.2]):=by
 refine aU.of Tryz.func336 J J J fun w0 S0=>au<|zo J (cq)<|zo J (jE)<|aq<|ah<|au<|aF J<|aq<|cU h J (fun h=>?_) (fun h=>?_)
 ·refine au<|aF J<|zo J (HP (ht J))<|zo J (rR Aa zZ (ht J))<|aF J<|zo J (lL (ht J) hI)<|bm J<|bm J<|aq<|ak<|ae ?_;cases so h;exact cC J J J
 ·refine dR<|au<|aF J<|zo J (rR Aa zZ (ht J))<|aF J<|zo J (lL (ht J) hI)<|bm J<|bm J<|aq<|ak ?_;cases so h;exact cC J J J

theorem Ue(a1:Int)(b:Int){R:Int×Bool}(h:mb a1 b=some R):aU aO 333 [bH a1,bH b] (tT [bH R.1,gY R.2]):=by
 refine aU.of Tryz.func333 J J J fun w0 S0=>au<|zo J (cq)<|zo J (jE)<|aq<|au<|aF J<|bv h fun r q_r h=>zo J (aA Ow (Dd _ q_r) ⟨(ht J),aR⟩)<|aF J<|bv h fun r1 q_r1 h=>zo J (aA Ow (Dd _ q_r1) ⟨(ht J),aR⟩)<|bv h fun r2 q_r2 h=>zo J (aA ZU (Ud _ _ q_r2) ⟨(ht J),(ht J),aR⟩)<|aF J<|zo J (hZ J J)<|zo J (hZ J J)<|bm J<|bm J<|aq ?_;refine au<|aF J<|aF J<|zo J (fa (ht J) hI)<|aF J<|zo J (fa (ht J) hI)<|zo J (HO IR (ht J) (ht J))<|bv h fun r3 q_r3 h=>zo J (aA Wc (N2 _ _ q_r3) ⟨(ht J),(ht J),aR⟩)<|aF J<|zo J (hZ J J)<|zo J (hZ J J)<|bm J<|bm J<|aq<|au<|aF J<|aF J<|aF J<|cR J J (fun hg=>cD J)<|cR J J (fun hg=>dd (bD J hg) hI) ?_;refine zo J (rE J J)<|bm J<|bm J<|aq<|ak ?_;cases so h;exact cC J J J

theorem Uz(a1:ac)(b:ac){R:ac×Int}(h:BZ a1 b=some R):aU aO 269 [tD af a1,tD af b] (tT [tD af R.1,bH R.2]):=by
 refine aU.of Tryz.func269 J J J fun w0 S0=>au<|zo J (jw J)<|zo J (jw J)<|bc (r:=af) (x:=hX) aH (fun _=>bf _) J fun b1=>zo J (cq)<|aq<|au<|zo J (bB aH J J)<|zo J (bB aH J J)<|bv h fun r q_r h=>zo J (aA Ox (De _ _ _ q_r) ⟨(ht J),(ht J),(yX ZW fun x y h=>Ue _ _ h),aR⟩)<|zo J (hZ J J)<|zo J (hZ J J)<|ax aH J an J (ht J) (ht J)<|aZ 4 J<|bm J<|aq<|ak ?_;cases so h;exact bS J J ⟨br aH J J J,aX J,aR⟩

theorem Uc(a1:Int)(b:Int){R:Int×Bool}(h:md a1 b=some R):aU aO 337 [bH a1,bH b] (tT [bH R.1,gY R.2]):=by
 refine aU.of Tryz.func337 J J J fun w0 S0=>au<|zo J (cq)<|zo J (jE)<|aq<|ah<|au<|aF J<|zo J (lU J)<|aq<|cU h J (fun h=>?_) (fun h=>?_)
 ·refine au<|zo J (cq)<|zo J (jE)<|aq<|ak<|ae ?_;cases so h;exact cC J J J
 ·refine dR<|au<|aF J<|bv h fun r q_r h=>zo J (aA Ow (Dd _ q_r) ⟨(ht J),aR⟩)<|aF J<|bv h fun r1 q_r1 h=>zo J (aA Ow (Dd _ q_r1) ⟨(ht J),aR⟩)<|bv h fun u q_u h=>zo J (Xj (ht J) (ht J) (Tw q_u))<|aF J<|zo J (fa (ht J) hI)<|aF J<|zo J (fa (ht J) hI)<|zo J (HO IR (ht J) (ht J))<|bv h fun r2 q_r2 h=>zo J (aA Wc (N2 _ _ q_r2) ⟨(ht J),(ht J),aR⟩)<|zo J (hZ J J)<|zo J (hZ J J)<|bm J<|bm J<|aQ ?_;refine av<|ak ?_;cases so h;exact cC J J J

theorem Uy(a1:ac)(b:ac){R:ac×Int}(h:B0 a1 b=some R):aU aO 270 [tD af a1,tD af b] (tT [tD af R.1,bH R.2]):=by
 refine aU.of Tryz.func270 J J J fun w0 S0=>au<|zo J (jw J)<|zo J (jw J)<|bc (r:=af) (x:=hX) aH (fun _=>bf _) J fun b1=>zo J (cq)<|aq<|au<|zo J (bB aH J J)<|zo J (bB aH J J)<|bv h fun r q_r h=>zo J (aA Ox (De _ _ _ q_r) ⟨(ht J),(ht J),(yX ZT fun x y h=>Uc _ _ h),aR⟩)<|zo J (hZ J J)<|zo J (hZ J J)<|ax aH J an J (ht J) (ht J)<|aZ 4 J<|bm J<|aq<|ak ?_;cases so h;exact bS J J ⟨br aH J J J,aX J,aR⟩

theorem Ub(c:Int){R:Bool}(h:yK c=some R):aU aO 338 [bH c] (gY R):=by
 refine aU.of Tryz.func338 J J J fun w0 S0=>au<|zo J (jE)<|aq<|au<|aF J<|zo J (lU J)<|bm J<|aq<|ak ?_;cases so h;exact aG J J

theorem N8(a1:ac)(b:ac){R:ac×Int}(h:qO a1 b=some R):aU aO 271 [tD af a1,tD af b] (tT [tD af R.1,bH R.2]):=by
 refine aU.of Tryz.func271 J J J fun w0 S0=>au<|zo J (jw J)<|zo J (jw J)<|bc (r:=af) (x:=hX) aH (fun _=>bf _) J fun b1=>zo J (cq)<|aq<|au<|zo J (bB aH J J)<|zo J (bB aH J J)<|bv h fun r q_r h=>zo J (aA Wd (N3 _ _ _ q_r) ⟨(ht J),(ht J),(yX ZS fun x y h=>Ub _ h),aR⟩)<|zo J (hZ J J)<|zo J (hZ J J)<|ax aH J an J (ht J) (ht J)<|aZ 4 J<|bm J<|aq<|ak ?_;cases so h;exact bS J J ⟨br aH J J J,aX J,aR⟩

theorem Ua(do1:(ac→ac→Option (ac×Int)))(a1:ac)(b:ac){R:ac×Int}(h:s6 do1 a1 b=some R):aU aO 339 [tD af a1,tD af b,bK (rT ((dK aO pX sx (fun(x:ac×ac)=>do1 x.1 x.2)))) ()] (tT [tD af R.1,bH R.2]):=by
 refine aU.of Tryz.func339 J J J fun w0 S0=>au<|zo J (jw J)<|zo J (jw J)<|bc (r:=af) (x:=hX) aH (fun _=>bf _) J fun b1=>zo J (cq)<|aq<|au<|zo J (uX VQ (ht J))<|zo J (bB aH J J)<|zo J (bB aH J J)<|bv h fun r q_r h=>zo J (fN (args:=pX) (res:=CR) (f:=(fun(x:ac×ac)=>do1 x.1 x.2)) (x:=((a1,b):ac×ac)) (ht J) q_r ⟨(ht J),(ht J),aR⟩)<|aF J<|zo J (hZ J J)<|zo J (hZ J J)<|bc (r:=af) (x:=hX) aH (fun _=>bf _) J fun b2=>ax aH J an J (ht J) (ht J)<|aZ 7 J<|bm J<|aQ ?_;refine av<|ah<|au<|aF rfl<|zo rfl (tE rfl)<|aq<|cU h rfl (fun h=>?_) (fun h=>?_)
 ·refine au<|zo J (bB aH J J)<|aF J<|ax aH J an J (ht J) (ht J)<|bm J<|aq<|ak<|ae<|bn 5 J ?_;cases so h;exact bS J J ⟨br aH J J J,aX J,aR⟩
 ·refine dR<|au<|zo J (bB aH J J)<|bv h fun r1 q_r1 h=>zo J (aA Wm (Oc _ q_r1) ⟨(ht J),aR⟩)<|zo J (hZ J J)<|zo J (hZ J J)<|ax aH J an J (ht J) (ht J)<|bm J<|aq<|ak<|bn 5 J ?_;cases so h;exact bS J J ⟨br aH J J J,aX J,aR⟩

theorem Ie(do1:(ac→ac→Option (ac×Int))){R:(ac→ac→Option (ac×Int))}(h:AW do1=some R):aU aO 272 [(dK aO pX sx (fun(x:ac×ac)=>do1 x.1 x.2))] ((dK aO pX sx (fun(x:ac×ac)=>R x.1 x.2))):=by
 refine aU.of Tryz.func272 J J J fun w0 S0=>au<|zo J (C9 (ht J))<|zo J (aJ hV)<|aq<|au<|zo J ((show bO _ _ _ _ ((dK aO pX sx (fun(x:ac×ac)=>(s6 do1) x.1 x.2)))from fW (cts:=[bK (rT ((dK aO pX sx (fun(x:ac×ac)=>do1 x.1 x.2)))) ()]) (caps:=[.tmp 1]) ZR ⟨(ht J),aR⟩ (fun x y h=>Ua _ _ _ h)))<|bm J<|aq<|ak ?_;cases so h;exact aG J J

theorem T9(l:(List Int)){R:Int}(h:Cn l=some R):aU aO 340 [mf l] (bH R):=by
 refine aU.of Tryz.func340 J J J fun w0 S0=>au<|zo J (cq)<|aq<|ah<|bv h fun e q_e h=>bv h fun e1 q_e1 h=>?_
 refine cJ (ts:=[_,_,_,_,_,_,_,_]) mixed J J
  ⟨ep 0 J J J (cD J),
  ⟨bT 3 0 J J J (bp g9 cv J (ht J) hI q_e),
  ⟨bT 4 1 J J J (bB cv J J),
  ⟨ep 0 J J J (cD J),
  ⟨bT 6 3 J J J (bp g9 cv J (ht J) hI q_e1),
  ⟨bT 7 4 J J J (bB cv J J),
  ⟨dv 5 2 8 5 J J J J (Nz (ht J) (ht J)),
  ⟨bT 9 6 J J J (tA J),
  aR⟩⟩⟩⟩⟩⟩⟩⟩ ?_
 refine av<|ak ?_;cases so h;exact aG J J

theorem Ux(a1:ac)(b:ac){R:ac×Int}(h:sd a1 b=some R):aU aO 273 [tD af a1,tD af b] (tT [tD af R.1,bH R.2]):=by
 refine aU.of Tryz.func273 J J J fun w0 S0=>au<|zo J (jw J)<|zo J (jw J)<|bc (r:=af) (x:=hX) aH (fun _=>bf _) J fun b1=>zo J (cq)<|aq<|au<|zo J (bB aH J J)<|zo J (bB aH J J)<|zo J (aV (r:=af) (ys:=[a1,b]) (xs:=[.tmp 6,.tmp 7]) j3 aH J J J J J ⟨(ht J),(ht J),aR⟩)<|bv h fun r q_r h=>zo J (aA R9 (Ib _ _ q_r) ⟨(yX ZQ fun x y h=>T9 _ h),(ht J),aR⟩)<|zo J (hZ J J)<|zo J (hZ J J)<|ax aH J an J (ht J) (ht J)<|aZ 4 J<|bm J<|aq<|ak ?_;cases so h;exact bS J J ⟨br aH J J J,aX J,aR⟩

theorem T8(l:(List Int)){R:Int}(h:DD l=some R):aU aO 341 [mf l] (bH R):=by
 refine aU.of Tryz.func341 J J J fun w0 S0=>au<|zo J (cq)<|aq<|ah<|bv h fun e q_e h=>bv h fun e1 q_e1 h=>?_
 refine cJ (ts:=[_,_,_,_,_,_,_,_]) mixed J J
  ⟨ep 0 J J J (cD J),
  ⟨bT 3 0 J J J (bp g9 cv J (ht J) hI q_e),
  ⟨bT 4 1 J J J (bB cv J J),
  ⟨ep 0 J J J (cD J),
  ⟨bT 6 3 J J J (bp g9 cv J (ht J) hI q_e1),
  ⟨bT 7 4 J J J (bB cv J J),
  ⟨dv 5 2 8 5 J J J J (NC (ht J) (ht J)),
  ⟨bT 9 6 J J J (tA J),
  aR⟩⟩⟩⟩⟩⟩⟩⟩ ?_
 refine av<|ak ?_;cases so h;exact aG J J

theorem Uw(a1:ac)(b:ac){R:ac×Int}(h:uJ a1 b=some R):aU aO 274 [tD af a1,tD af b] (tT [tD af R.1,bH R.2]):=by
 refine aU.of Tryz.func274 J J J fun w0 S0=>au<|zo J (jw J)<|zo J (jw J)<|bc (r:=af) (x:=hX) aH (fun _=>bf _) J fun b1=>zo J (cq)<|aq<|au<|zo J (bB aH J J)<|zo J (bB aH J J)<|zo J (aV (r:=af) (ys:=[a1,b]) (xs:=[.tmp 6,.tmp 7]) j3 aH J J J J J ⟨(ht J),(ht J),aR⟩)<|bv h fun r q_r h=>zo J (aA R9 (Ib _ _ q_r) ⟨(yX ZP fun x y h=>T8 _ h),(ht J),aR⟩)<|zo J (hZ J J)<|zo J (hZ J J)<|ax aH J an J (ht J) (ht J)<|aZ 4 J<|bm J<|aq<|ak ?_;cases so h;exact bS J J ⟨br aH J J J,aX J,aR⟩

theorem UU{R:(List (Int×(ac→ac→Option (ac×Int))))}(h:xX=some R):aU aO 183 [] (Nm (fun y:(ac→ac→Option (ac×Int))=>yx aO pX sx (fun(x:ac×ac)=>y x.1 x.2)) nh R):=by
 refine aU.of Tryz.func183 J J J fun w0 S0=>au<|zo J (aJ (show aI _ _ (.const (.map none)) (tV (.map none))from fun _ _ _=>J))<|aq<|au<|bv h fun r q_r h=>zo J (aA aam (UC _ q_r) ⟨(yX Sd fun x y h=>If _ _ h),aR⟩)<|bm J<|aq<|au<|zM (wv (fun y:(ac→ac→Option (ac×Int))=>yx aO pX sx (fun(x:ac×ac)=>y x.1 x.2))) nh J fun b=>bv h fun r1 q_r1 h=>zo J (aA Wn (Od _ q_r1) ⟨(yX aal fun x y h=>UB _ h),aR⟩)<|eN (γ:=(fun y:(ac→ac→Option (ac×Int))=>yx aO pX sx (fun(x:ac×ac)=>y x.1 x.2))) (y:=r1) wD (ee kM) (ht J) (nE hI) (oa (ht J)) fun os=>bv h fun r2 q_r2 h=>zo J (aA Wn (Od _ q_r2) ⟨(yX Wm fun x y h=>Oc _ h),aR⟩)<|eN (γ:=(fun y:(ac→ac→Option (ac×Int))=>yx aO pX sx (fun(x:ac×ac)=>y x.1 x.2))) (y:=r2) wD (ee kM) (ht J) (nE hI) (oa (ht J)) fun os1=>bv h fun r3 q_r3 h=>zo J (aA Wl (Oa _ q_r3) ⟨hB,aR⟩) ?_;refine eN (γ:=(fun y:(ac→ac→Option (ac×Int))=>yx aO pX sx (fun(x:ac×ac)=>y x.1 x.2))) (y:=r3) wD (ee kM) (ht J) (nE hI) (oa (ht J)) fun os2=>bv h fun r4 q_r4 h=>zo J (aA Wl (Oa _ q_r4) ⟨hB,aR⟩)<|eN (γ:=(fun y:(ac→ac→Option (ac×Int))=>yx aO pX sx (fun(x:ac×ac)=>y x.1 x.2))) (y:=r4) wD (ee kM) (ht J) (nE hI) (oa (ht J)) fun os3=>eN (γ:=(fun y:(ac→ac→Option (ac×Int))=>yx aO pX sx (fun(x:ac×ac)=>y x.1 x.2))) (y:=B2) wD (ee kM) (ht J) (nE hI) (oa (yX aak fun x y h=>UA _ _ h)) fun os4=>eN (γ:=(fun y:(ac→ac→Option (ac×Int))=>yx aO pX sx (fun(x:ac×ac)=>y x.1 x.2))) (y:=vf) wD (ee kM) (ht J) (nE hI) (oa (yX Wk fun x y h=>N9 _ _ h)) fun os5=>eN (γ:=(fun y:(ac→ac→Option (ac×Int))=>yx aO pX sx (fun(x:ac×ac)=>y x.1 x.2))) (y:=BZ) wD (ee kM) (ht J) (nE hI) (oa (yX aaj fun x y h=>Uz _ _ h)) fun os6=>eN (γ:=(fun y:(ac→ac→Option (ac×Int))=>yx aO pX sx (fun(x:ac×ac)=>y x.1 x.2))) (y:=B0) wD (ee kM) (ht J) (nE hI) (oa (yX aai fun x y h=>Uy _ _ h)) fun os7=>eN (γ:=(fun y:(ac→ac→Option (ac×Int))=>yx aO pX sx (fun(x:ac×ac)=>y x.1 x.2))) (y:=qO) wD (ee kM) (ht J) (nE hI) (oa (yX Wj fun x y h=>N8 _ _ h)) fun os8=>bv h fun r5 q_r5 h=>zo J (aA Sc (Ie _ q_r5) ⟨(yX Wj fun x y h=>N8 _ _ h),aR⟩)<|eN (γ:=(fun y:(ac→ac→Option (ac×Int))=>yx aO pX sx (fun(x:ac×ac)=>y x.1 x.2))) (y:=r5) wD (ee kM) (ht J) (nE hI) (oa (ht J)) fun os9=>eN (γ:=(fun y:(ac→ac→Option (ac×Int))=>yx aO pX sx (fun(x:ac×ac)=>y x.1 x.2))) (y:=nm) wD (ee kM) (ht J) (nE hI) (oa (yX Sd fun x y h=>If _ _ h)) fun os10=>aF J<|eN (γ:=(fun y:(ac→ac→Option (ac×Int))=>yx aO pX sx (fun(x:ac×ac)=>y x.1 x.2))) (y:=r) wD (ee kM) (ht J) (nE hI) (oa (ht J)) fun os11=>aF J<|bv h fun r6 q_r6 h=>zo J (aA Sc (Ie _ q_r6) ⟨(ht J),aR⟩)<|eN (γ:=(fun y:(ac→ac→Option (ac×Int))=>yx aO pX sx (fun(x:ac×ac)=>y x.1 x.2))) (y:=r6) wD (ee kM) (ht J) (nE hI) (oa (ht J)) fun os12=>bv h fun r7 q_r7 h=>zo J (aA Sc (Ie _ q_r7) ⟨(yX Sd fun x y h=>If _ _ h),aR⟩)<|eN (γ:=(fun y:(ac→ac→Option (ac×Int))=>yx aO pX sx (fun(x:ac×ac)=>y x.1 x.2))) (y:=r7) wD (ee kM) (ht J) (nE hI) (oa (ht J)) fun os13=>eN (γ:=(fun y:(ac→ac→Option (ac×Int))=>yx aO pX sx (fun(x:ac×ac)=>y x.1 x.2))) (y:=sd) wD (ee kM) (ht J) (nE hI) (oa (yX aah fun x y h=>Ux _ _ h)) fun os14=>eN (γ:=(fun y:(ac→ac→Option (ac×Int))=>yx aO pX sx (fun(x:ac×ac)=>y x.1 x.2))) (y:=uJ) wD (ee kM) (ht J) (nE hI) (oa (yX aag fun x y h=>Uw _ _ h)) fun os15=>?_;refine aF J<|bm J<|aq<|ak<|K9 0 J ?_;cases so h;exact aG J J

theorem XV{l:Option Nat}{c:Nat}{xs s:List ac}{lo:Int}{R:List ac}(hs:dx xs lo (xs.length:Int)=some s)(h:fK s=some R):c9 aO 276 [tV (n9 4 l c lo.toNat s.length)] [fq af 46 l c xs] (fun i:OI=>qM (i.h 0).1 (i.h 0).2 R) (fun i=>[fq af 46 (i.h 0).1 (i.h 0).2 R,fq af 46 l c xs]):=by
 refine c9.of Tryz.func276 J J J fun w0 S0=>au<|zo J (aJ rY)<|aq<|ah<|au<|aF J<|GU (r:=af) j3 (.head _) hs (ht J) J fun isnil hisnil=>aq<|oG (ht J) (fun hc=>?_) (fun hc=>?_)
 ·have hx:=hisnil hc
  have h:some Hf=some R:=by simpa [fK,app,hx] using h
  refine au<|bN false af 46<|zo J (aJ rY)<|aq<|ak<|ae ?_;cases so h;exact mU J (oi none 0) J J (fun _ _ h=>h)
 ·refine dR<|au<|jZ (r:=af) (ys:=Hf) (xs:=[]) j3 aH J J J J J trivial J fun l1 c1=>aF J<|bv h fun x q_x h=>E5 aH J J J J j3 J J (ht J) (.tail _ (.head _)) hs (ht J) q_x fun l2 c2=>bm J<|aq<|ak ?_;cases so h;exact mU J (oi l2 c2) J J (fun _ _ h=>h)

theorem RJ(b:Nat)(l:Option Nat)(c:Nat)(stack:(List ac))(k:Int){R:(List ac)×(List ac)}(h:kw stack k=some R):c9 aO 275 [bH k,tV (aP b 0)] [bx rV 42 b (aS l c stack.length),fq af 46 l c stack] (fun i:OI=>bR (af) R.1) (fun i=>[bx rV 42 b (aS (i.h 0).1 (i.h 0).2 R.2.length),fq af 46 (i.h 0).1 (i.h 0).2 R.2]):=by
 refine c9.of Tryz.func275 J J J fun w0 S0=>au<|zo J (aJ (show aI _ _ _ (bR (af) ([]))from jA))<|aq<|au<|zo J (gU Hm (.head _) (ht J))<|zo J (gU Hm (.head _) (ht J))<|zo J (io j3 (.tail _ (.head _)) (ht J))<|aF J<|zo J (gK (ht J) (ht J))<|bv h fun y q_y h=>zo J (nC j3 aH J (.tail _ (.head _)) (ht J) (ht J) q_y)<|mH (.tail _ (.head _)) q_y fun hv=>bI<|bv h fun r q_r h=>Be [fq af 46 l c stack] _ J aaf (XV q_y q_r) ⟨(ht J),aR⟩ J fun i=>?_;refine(show RG _ _ _ _ [fq af 46 (i.h 0).1 (i.h 0).2 r,fq af 46 l c stack,bx rV 42 b (aS l c stack.length)] _ from ?_);refine bm J<|aq<|au<|zo J (gU Hm (.tail _ (.tail _ (.head _))) (ht J))<|zo J (gU Hm (.tail _ (.tail _ (.head _))) (ht J))<|zo J (io j3 (.tail _ (.head _)) (ht J))<|aF J<|zo J (gK (ht J) (ht J))<|bv h fun y1 q_y1 h=>zo J (jY j3 aH J (.tail _ (.head _)) (ht J) (ht J) q_y1)<|bI<|uy q_y1<|gX<|ax Hm J an J (ht J) (Rh (ht J))<|aq<|au<|aF J<|bm J<|aq ?_;refine ak<|aK<|jb<|cw 3 J<|cw 11 J<|cw 4 J<|cw 18 J<|jd 3 J<|bk<|bE<|bE ?_;cases so h;exact mU J (oi l c) J J (fun _ _ h=>h)

end Go.Proofs.YtfhhakidodmdfaaGreatDoor

