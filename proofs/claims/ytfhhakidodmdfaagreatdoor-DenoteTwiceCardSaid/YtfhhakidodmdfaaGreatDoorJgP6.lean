/- cP of this claim: P6. -/
import Derived.Test.YtfhhakidodmdfaaGreatDoorJgT
import Derived.Test.YtfhhakidodmdfaaGreatDoorJgP5
set_option linter.all false
namespace Go.Proofs.YtfhhakidodmdfaaGreatDoor
open Go
set_option maxRecDepth 100000

theorem UP(a1:Int)(b:Int){R:Int×Bool}(h:pP a1 b=some R):aX aQ 332 [bM a1,bM b] (tT [bM R.1,iR R.2]):=by
 refine aX.of Tryz.func332 J J J fun w0 S0=>aw<|zo J (cD)<|zo J (jL)<|av<|aw<|aG J<|aG J<|zo J (iQ (ht J) (ht J))<|bp J<|av<|aw<|aG J<|aG J<|aG J<|zo J (Cf (ht J) (ht J))<|aG J<|aG J<|zo J (Cf (ht J) (ht J)) ?_;refine zo J (Ci (ht J) (ht J))<|zo J (jq (ht J) hI)<|bp J<|bp J<|av<|am ?_;cases so h;exact cC J J J

theorem OM(a1:ac)(b:ac){R:ac×Int}(h:vB a1 b=some R):aX aQ 268 [tD af a1,tD af b] (tT [tD af R.1,bM R.2]):=by
 refine aX.of Tryz.func268 J J J fun w0 S0=>aw<|zo J (jm J)<|zo J (jm J)<|aW (r:=af) (x:=ig) aH (fun _=>bj _) J fun b1=>zo J (cD)<|av<|aw<|zo J (bB aH J J)<|zo J (bB aH J J)<|bC h fun r q_r h=>zo J (aC O7 (DK _ _ _ q_r) ⟨(ht J),(ht J),(zC aaM fun x y h=>UP _ _ h),aT⟩)<|zo J (gp J J)<|zo J (gp J J)<|ap aH J an J (ht J) (ht J)<|aV 4 J<|bp J<|av<|am ?_;cases so h;exact bR J J ⟨bq aH J J J,aZ J,aT⟩

theorem Vb(a1:ac){R:ac×Int}(h:yR a1=some R):aX aQ 264 [tD af a1] (tT [tD af R.1,bM R.2]):=by
 refine aX.of Tryz.func264 J J J fun w0 S0=>aw<|zo J (jm J)<|aW (r:=af) (x:=ig) aH (fun _=>bj _) J fun b=>zo J (cD)<|av<|ah<|bC h fun r q_r h=>bC h fun r1 q_r1 h=>?_
 refine qw 5 (ts:=[tD af r,tD af a1,tT [tD af r1.1,bM r1.2],tD af r1.1,bM r1.2]) mixed J J J
  ⟨Pv J J (aC Ln (Bt _ q_r) ⟨hI,aT⟩),
  ⟨eM 1 J J J (bB aH J J),
  ⟨d8 4 0 5 1 J J J J (aC WV (OM _ _ q_r1) ⟨(ht J),(ht J),aT⟩),
  ⟨bY 6 2 J J J (gp J J),
  ⟨bY 6 2 J J J (gp J J),
  aT⟩⟩⟩⟩⟩ ?_
 refine ap aH J an J (ht J) (ht J)<|aV 2 J<|bp J<|av<|am ?_;cases so h;exact bR J J ⟨bq aH J J J,aZ J,aT⟩

theorem UD(v:ac){R:Int}(h:xu v=some R):aX aQ 365 [tD af v] (bM R):=by
 refine aX.of Tryz.func365 J J J fun w0 S0=>aw<|zo J (jm J)<|zo J (cD)<|av<|ah<|aw<|zo J (df hZ cQ J J)<|zo J (bB cx J J)<|zo J (nI J)<|av<|cU h J (fun h=>?_) (fun h=>?_)
 ·refine aw<|zo J (cD)<|av<|am<|ae ?_;cases so h;exact aJ J J
 ·refine dS<|aw<|zo J (df lY ft J J)<|zo J (bB F8 J J)<|zo J (xN hI (ht J))<|bp J<|av<|am ?_;cases so h;exact aJ J J

theorem IV(to1:((List Int)→Option Int))(l:(List ac)){R:ac×Int}(h:nR to1 l=some R):aX aQ 327 [(dX aQ (fun(x:(List Int))=>[mv x]) y6 (fun(x:(List Int))=>to1 x)),ca (af) l] (tT [tD af R.1,bM R.2]):=by
 refine aX.of Tryz.func327 J J J fun w0 S0=>aw<|aW (r:=af) (x:=ig) aH (fun _=>bj _) J fun b=>zo J (cD)<|av<|ah<|aw<|aG J<|bC h fun r q_r h=>zo J (aC WM (OC _ q_r) ⟨(ht J),aT⟩)<|bp J<|av<|aw<|aG J<|zo J (s4 J)<|av<|cU h J (fun h=>?_) (fun h=>?_)
 ·refine aw<|zo J (bU (y:=ig) aH qk bj (J))<|aG J<|ap aH J an J (ht J) (ht J)<|bp J<|av<|am<|ae<|bk 4 J ?_;cases so h;exact bR J J ⟨bq aH J J J,aZ J,aT⟩
 ·refine dS<|aw<|bQ false cd 3<|zo J (aM tJ)<|av<|ah<|aw<|aG J<|zo J (jg ki J)<|zo J (bI hI)<|av<|aA<|be (k:=16) J fun hN=>bL ?_;refine aU (ub (Z:=fun ls i n l1 c x=>(l.drop i=ls)∧lM to1 ls n x=some R) (Of:=fun _ i n l1 c x=>[fj cd 3 l1 c n,bx af 46 b x]) (Gf:=fun _ i n l1 c x=>[(0,(dX aQ (fun(x:(List Int))=>[mv x]) y6 (fun(x:(List Int))=>to1 x))),(4,tV (aN b 0)),(7,sb l1 c n),(16,ca (af) l),(17,jz l),(18,bM (i:Int))]) (fun i n l1 c x h=>?_) (fun e tl ih i n l1 c x h=>?_) l 0 u7 none 0 ig ⟨J,h⟩) (bu J)
  ·obtain⟨hx,h⟩:=h
   refine aB<|aw<|zo J (fM J J)<|av<|ah<|bz (ht J) (du hx)<|bv ?_;refine ai (ai (aO ?_));refine ax<|aw<|aG rfl<|aG rfl<|jC<|iW 7 rfl<|iW 33 rfl<|bC h fun r1 q_r1 h=>zo J (gZ (args:=(fun(x:(List Int))=>[tD xp x])) (res:=Tq) (f:=(fun(x:(List Int))=>to1 x)) (x:=((n):(List Int))) (ht J) q_r1 ⟨(kz (ht J)),aT⟩)<|bC h fun e1 q_e1 h=>zo J (Qy (r:=tz af 3) (x:=gv2) gm2 gr2 (Gm Tryz.underlying344 aH J Z4 (ht J) q_e1))<|zo J (bB aH J J)<|bF<|ap aH J an J (ht J) (ht J)<|zo J (cD)<|av<|am<|bk 4 J<|ba ?_;cases so h;exact bR J J ⟨bq aH J J J,aZ J,aT⟩
  ·obtain⟨hx,h⟩:=h
   refine aB<|aw<|zo J (fM J J)<|av<|ah<|bw (ht J) (di hx)<|dS<|ah<|aA<|aw<|zo J (my ki aH J J J (da hx))<|zo J (bB aH J J)<|aW (r:=af) (x:=ig) aH (fun _=>bj _) J fun b1=>ap aH J an J (ht J) (ht J)<|aV 9 J<|av<|ah<|aw ?_;refine zo J (df hZ cQ J J)<|zo J (bB cx J J)<|zo J (gv (ht J) hI)<|av<|cU h J (fun h=>?_) (fun h=>?_)
   ·refine aw<|zo J (bU (y:=ig) aH qk bj (J))<|bF<|ap aH J an J (ht J) (ht J)<|zo J (cD)<|av<|am ?_;refine ae (aD (ae (ae (aD (ae ?_)))));refine bk 4 J<|ba ?_;cases so h;exact bR J J ⟨bq aH J J J,aZ J,aT⟩
   ·refine dS<|au<|aG J<|zo J (bB aH J J)<|bC h fun r2 q_r2 h=>zo J (aC aaz (UD _ q_r2) ⟨(ht J),aT⟩)<|zo J (aS (r:=cd) (ys:=[r2]) (xs:=[.tmp 28]) gT cx J J J J J ⟨(ht J),aT⟩)<|bC h fun n1 q_n1 h=>cT cx J J J J gT J J (ht J) (ht J) q_n1 fun l2 c1=>bp J<|aP<|aq<|ax<|au<|zo rfl (mz (cM hx hN) rfl)<|aG rfl<|aP ?_;exact bm (aU (ih (i+1) n1 l2 c1 x ⟨cL hx,h⟩) (bu J))

theorem US(l:(List Int)){R:Int}(h:CW l=some R):aX aQ 328 [mv l] (bM R):=by
 refine aX.of Tryz.func328 J J J fun w0 S0=>aw<|zo J (cD)<|av<|aw<|aG J<|bC h fun e q_e h=>zo J (br gT cx J (ht J) hI q_e)<|zo J (bB cx J J)<|zo J (iQ hI (ht J))<|bp J<|av<|am ?_;cases so h;exact aJ J J

theorem OO(a1:ac){R:ac×Int}(h:qG a1=some R):aX aQ 265 [tD af a1] (tT [tD af R.1,bM R.2]):=by
 refine aX.of Tryz.func265 J J J fun w0 S0=>aw<|zo J (jm J)<|aW (r:=af) (x:=ig) aH (fun _=>bj _) J fun b=>zo J (cD)<|av<|aw<|zo J (bB aH J J)<|zo J (aS (r:=af) (ys:=[a1]) (xs:=[.tmp 4]) ki aH J J J J J ⟨(ht J),aT⟩)<|bC h fun r q_r h=>zo J (aC SD (IV _ _ q_r) ⟨(zC aaP fun x y h=>US _ h),(ht J),aT⟩)<|zo J (gp J J)<|zo J (gp J J)<|ap aH J an J (ht J) (ht J)<|aV 2 J<|bp J<|av<|am ?_;cases so h;exact bR J J ⟨bq aH J J J,aZ J,aT⟩

theorem UR(is1:Bool)(a1:ac)(x:ac){R:ac×Int}(h:oo is1 a1 x=some R):aX aQ 329 [tD af a1,tD af x,bK rB is1] (tT [tD af R.1,bM R.2]):=by
 refine aX.of Tryz.func329 J J J fun w0 S0=>aw<|zo J (jm J)<|zo J (jm J)<|aW (r:=af) (x:=ig) aH (fun _=>bj _) J fun b=>zo J (cD)<|av<|aw<|zo J (df hZ cQ J J)<|zo J (bB cx J J)<|zo J (nI J)<|zo J (bB H4 J J)<|zo J (T9 NP (ht J) (ht J))<|bC h fun r q_r h=>zo J (aC SJ (I0 _ q_r) ⟨(ht J),aT⟩)<|ap aH J an J (ht J) (ht J)<|aV 5 J<|zo J (cD)<|av<|am ?_;cases so h;exact bR J J ⟨bq aH J J J,aZ J,aT⟩

theorem ON(is1:Bool){R:(ac→ac→Option (ac×Int))}(h:Cq is1=some R):aX aQ 266 [iR is1] ((dX aQ qx s5 (fun(x:ac×ac)=>R x.1 x.2))):=by
 refine aX.of Tryz.func266 J J J fun w0 S0=>aw<|zo J (jm J)<|zo J (aM hV)<|av<|aw<|zo J ((show bS _ _ _ _ ((dX aQ qx s5 (fun(x:ac×ac)=>(oo is1) x.1 x.2)))from iK (cts:=[bK rB is1]) (caps:=[.tmp 1]) aaO ⟨(ht J),aT⟩ (fun x y h=>UR _ _ _ h)))<|bp J<|av<|am ?_;cases so h;exact aJ J J

theorem UQ(a1:Int)(b:Int){R:Int×Bool}(h:rL a1 b=some R):aX aQ 331 [bM a1,bM b] (tT [bM R.1,iR R.2]):=by
 refine aX.of Tryz.func331 J J J fun w0 S0=>aw<|zo J (cD)<|zo J (jL)<|av<|aw<|aG J<|aG J<|zo J (oa (ht J) (ht J))<|bp J<|av<|aw<|aG J<|aG J<|aG J<|zo J (Cf (ht J) (ht J))<|aG J<|aG J<|zo J (Cf (ht J) (ht J)) ?_;refine zo J (Ci (ht J) (ht J))<|zo J (jq (ht J) hI)<|bp J<|bp J<|av<|am ?_;cases so h;exact cC J J J

theorem Va(a1:ac)(b:ac){R:ac×Int}(h:CC a1 b=some R):aX aQ 267 [tD af a1,tD af b] (tT [tD af R.1,bM R.2]):=by
 refine aX.of Tryz.func267 J J J fun w0 S0=>aw<|zo J (jm J)<|zo J (jm J)<|aW (r:=af) (x:=ig) aH (fun _=>bj _) J fun b1=>zo J (cD)<|av<|aw<|zo J (bB aH J J)<|zo J (bB aH J J)<|bC h fun r q_r h=>zo J (aC O7 (DK _ _ _ q_r) ⟨(ht J),(ht J),(zC aaN fun x y h=>UQ _ _ h),aT⟩)<|zo J (gp J J)<|zo J (gp J J)<|ap aH J an J (ht J) (ht J)<|aV 4 J<|bp J<|av<|am ?_;cases so h;exact bR J J ⟨bq aH J J J,aZ J,aT⟩

theorem UN(p:Int)(y:Int){R:Int×Int}(h:na p y=some R):aX aQ 334 [tD HP p,tD HP y] (tT [tD HP R.1,tD HP R.2]):=by
 refine aX.of Tryz.func334 J J J fun w0 S0=>aw<|zo J (cD)<|zo J (cD)<|av<|aw<|aG J<|zo J (Ci (ht J) hI)<|bp J<|av<|aw<|aG J<|zo J (Cg (ht J) hI (by decide))<|bp J<|av<|aw<|aG J ?_;refine zo J (Ci (ht J) hI)<|bp J<|av<|aw<|aG J<|zo J (Cg (ht J) hI (by decide))<|bp J<|av<|aw<|aG J<|aG J<|zo J (xN (ht J) (ht J))<|bp J<|av<|aw<|aG J<|aG J<|zo J (xN (ht J) (ht J)) ?_;refine aG J<|zo J (Cg (ht J) hI (by decide))<|zo J (oa (ht J) (ht J))<|bp J<|av<|aw<|aG J<|zo J (Ci (ht J) hI)<|bp J<|av<|aw<|aG J<|zo J (Cg (ht J) hI (by decide))<|bp J<|av<|aw<|aG J<|aG J ?_;refine aG J<|zo J (xN (ht J) (ht J))<|zo J (oa (ht J) (ht J))<|bp J<|av<|aw<|aG J<|aG J<|zo J (xN (ht J) (ht J))<|aG J<|zo J (oa (ht J) (ht J))<|aG J<|zo J (Cg (ht J) hI (by decide))<|zo J (oa (ht J) (ht J))<|bp J<|av<|aw<|aG J<|aG J<|zo J (xN (ht J) (ht J)) ?_;refine bp J<|av<|am ?_;cases so h;exact cC J J J

theorem DI(n:Int){R:Int}(h:pD n=some R):aX aQ 335 [bM n] (tD HP R):=by
 refine aX.of Tryz.func335 J J J fun w0 S0=>aw<|zo J (cD)<|av<|ah<|aw<|aG J<|zo J (gi (ht J) hI)<|av<|cU h J (fun h=>?_) (fun h=>?_)
 ·refine aw<|aG J<|zo J (sC AD AF (ht J))<|zo J (Iy (ht J))<|bp J<|av<|am<|ae ?_;cases so h;exact aJ J J
 ·refine dS<|aw<|aG J<|zo J (sC AD AF (ht J))<|bp J<|av<|am ?_;cases so h;exact aJ J J

theorem OD(u:Int)(below:Bool){R:Int×Bool}(h:m5 u below=some R):aX aQ 336 [tD HP u,iR below] (tT [bM R.1,iR R.2]):=by
 refine aX.of Tryz.func336 J J J fun w0 S0=>aw<|zo J (cD)<|zo J (jL)<|av<|ah<|aw<|aG J<|av<|cU h J (fun h=>?_) (fun h=>?_)
 ·refine aw<|aG J<|zo J (Iy (ht J))<|zo J (sC AF AD (ht J))<|aG J<|zo J (n9 (ht J) hI)<|bp J<|bp J<|av<|am<|ae ?_;cases so h;exact cC J J J
 ·refine dS<|aw<|aG J<|zo J (sC AF AD (ht J))<|aG J<|zo J (n9 (ht J) hI)<|bp J<|bp J<|av<|am ?_;cases so h;exact cC J J J

theorem UO(a1:Int)(b:Int){R:Int×Bool}(h:mq a1 b=some R):aX aQ 333 [bM a1,bM b] (tT [bM R.1,iR R.2]):=by
 refine aX.of Tryz.func333 J J J fun w0 S0=>aw<|zo J (cD)<|zo J (jL)<|av<|aw<|aG J<|bC h fun r q_r h=>zo J (aC O6 (DI _ q_r) ⟨(ht J),aT⟩)<|aG J<|bC h fun r1 q_r1 h=>zo J (aC O6 (DI _ q_r1) ⟨(ht J),aT⟩)<|bC h fun r2 q_r2 h=>zo J (aC aaK (UN _ _ q_r2) ⟨(ht J),(ht J),aT⟩)<|aG J<|zo J (gp J J)<|zo J (gp J J)<|bp J<|bp J<|av ?_;refine aw<|aG J<|aG J<|zo J (gi (ht J) hI)<|aG J<|zo J (gi (ht J) hI)<|zo J (N7 NP (ht J) (ht J))<|bC h fun r3 q_r3 h=>zo J (aC WN (OD _ _ q_r3) ⟨(ht J),(ht J),aT⟩)<|aG J<|zo J (gp J J)<|zo J (gp J J)<|bp J<|bp J<|av<|aw<|aG J<|aG J<|aG J<|dQ J J (fun hg=>dl J)<|dQ J J (fun hg=>dH (bN J hg) hI) ?_;refine zo J (u6 J J)<|bp J<|bp J<|av<|am ?_;cases so h;exact cC J J J

theorem U9(a1:ac)(b:ac){R:ac×Int}(h:CA a1 b=some R):aX aQ 269 [tD af a1,tD af b] (tT [tD af R.1,bM R.2]):=by
 refine aX.of Tryz.func269 J J J fun w0 S0=>aw<|zo J (jm J)<|zo J (jm J)<|aW (r:=af) (x:=ig) aH (fun _=>bj _) J fun b1=>zo J (cD)<|av<|aw<|zo J (bB aH J J)<|zo J (bB aH J J)<|bC h fun r q_r h=>zo J (aC O7 (DK _ _ _ q_r) ⟨(ht J),(ht J),(zC aaL fun x y h=>UO _ _ h),aT⟩)<|zo J (gp J J)<|zo J (gp J J)<|ap aH J an J (ht J) (ht J)<|aV 4 J<|bp J<|av<|am ?_;cases so h;exact bR J J ⟨bq aH J J J,aZ J,aT⟩

theorem UM(a1:Int)(b:Int){R:Int×Bool}(h:mt a1 b=some R):aX aQ 337 [bM a1,bM b] (tT [bM R.1,iR R.2]):=by
 refine aX.of Tryz.func337 J J J fun w0 S0=>aw<|zo J (cD)<|zo J (jL)<|av<|ah<|aw<|aG J<|zo J (nI J)<|av<|cU h J (fun h=>?_) (fun h=>?_)
 ·refine aw<|zo J (cD)<|zo J (jL)<|av<|am<|ae ?_;cases so h;exact cC J J J
 ·refine dS<|aw<|aG J<|bC h fun r q_r h=>zo J (aC O6 (DI _ q_r) ⟨(ht J),aT⟩)<|aG J<|bC h fun r1 q_r1 h=>zo J (aC O6 (DI _ q_r1) ⟨(ht J),aT⟩)<|bC h fun u q_u h=>zo J (X2 (ht J) (ht J) (Uc q_u))<|aG J<|zo J (gi (ht J) hI)<|aG J<|zo J (gi (ht J) hI)<|zo J (N7 NP (ht J) (ht J))<|bC h fun r2 q_r2 h=>zo J (aC WN (OD _ _ q_r2) ⟨(ht J),(ht J),aT⟩)<|zo J (gp J J)<|zo J (gp J J)<|bp J<|bp J<|aP ?_;refine ax<|am ?_;cases so h;exact cC J J J

theorem U8(a1:ac)(b:ac){R:ac×Int}(h:CB a1 b=some R):aX aQ 270 [tD af a1,tD af b] (tT [tD af R.1,bM R.2]):=by
 refine aX.of Tryz.func270 J J J fun w0 S0=>aw<|zo J (jm J)<|zo J (jm J)<|aW (r:=af) (x:=ig) aH (fun _=>bj _) J fun b1=>zo J (cD)<|av<|aw<|zo J (bB aH J J)<|zo J (bB aH J J)<|bC h fun r q_r h=>zo J (aC O7 (DK _ _ _ q_r) ⟨(ht J),(ht J),(zC aaJ fun x y h=>UM _ _ h),aT⟩)<|zo J (gp J J)<|zo J (gp J J)<|ap aH J an J (ht J) (ht J)<|aV 4 J<|bp J<|av<|am ?_;cases so h;exact bR J J ⟨bq aH J J J,aZ J,aT⟩

theorem UL(c:Int){R:Bool}(h:zj c=some R):aX aQ 338 [bM c] (iR R):=by
 refine aX.of Tryz.func338 J J J fun w0 S0=>aw<|zo J (jL)<|av<|aw<|aG J<|zo J (nI J)<|bp J<|av<|am ?_;cases so h;exact aJ J J

theorem OL(a1:ac)(b:ac){R:ac×Int}(h:ro a1 b=some R):aX aQ 271 [tD af a1,tD af b] (tT [tD af R.1,bM R.2]):=by
 refine aX.of Tryz.func271 J J J fun w0 S0=>aw<|zo J (jm J)<|zo J (jm J)<|aW (r:=af) (x:=ig) aH (fun _=>bj _) J fun b1=>zo J (cD)<|av<|aw<|zo J (bB aH J J)<|zo J (bB aH J J)<|bC h fun r q_r h=>zo J (aC WO (OF _ _ _ q_r) ⟨(ht J),(ht J),(zC aaI fun x y h=>UL _ h),aT⟩)<|zo J (gp J J)<|zo J (gp J J)<|ap aH J an J (ht J) (ht J)<|aV 4 J<|bp J<|av<|am ?_;cases so h;exact bR J J ⟨bq aH J J J,aZ J,aT⟩

theorem UK(do1:(ac→ac→Option (ac×Int)))(a1:ac)(b:ac){R:ac×Int}(h:tP do1 a1 b=some R):aX aQ 339 [tD af a1,tD af b,bK (rT ((dX aQ qx s5 (fun(x:ac×ac)=>do1 x.1 x.2)))) ()] (tT [tD af R.1,bM R.2]):=by
 refine aX.of Tryz.func339 J J J fun w0 S0=>aw<|zo J (jm J)<|zo J (jm J)<|aW (r:=af) (x:=ig) aH (fun _=>bj _) J fun b1=>zo J (cD)<|av<|aw<|zo J (vn Wr (ht J))<|zo J (bB aH J J)<|zo J (bB aH J J)<|bC h fun r q_r h=>zo J (gZ (args:=qx) (res:=Dp) (f:=(fun(x:ac×ac)=>do1 x.1 x.2)) (x:=((a1,b):ac×ac)) (ht J) q_r ⟨(ht J),(ht J),aT⟩)<|aG J<|zo J (gp J J)<|zo J (gp J J)<|aW (r:=af) (x:=ig) aH (fun _=>bj _) J fun b2=>ap aH J an J (ht J) (ht J)<|aV 7 J<|bp J<|aP ?_;refine ax<|ah<|aw<|aG rfl<|zo rfl (s4 rfl)<|av<|cU h rfl (fun h=>?_) (fun h=>?_)
 ·refine aw<|zo J (bB aH J J)<|aG J<|ap aH J an J (ht J) (ht J)<|bp J<|av<|am<|ae<|bk 5 J ?_;cases so h;exact bR J J ⟨bq aH J J J,aZ J,aT⟩
 ·refine dS<|aw<|zo J (bB aH J J)<|bC h fun r1 q_r1 h=>zo J (aC WX (OO _ q_r1) ⟨(ht J),aT⟩)<|zo J (gp J J)<|zo J (gp J J)<|ap aH J an J (ht J) (ht J)<|bp J<|av<|am<|bk 5 J ?_;cases so h;exact bR J J ⟨bq aH J J J,aZ J,aT⟩

theorem IY(do1:(ac→ac→Option (ac×Int))){R:(ac→ac→Option (ac×Int))}(h:Bv do1=some R):aX aQ 272 [(dX aQ qx s5 (fun(x:ac×ac)=>do1 x.1 x.2))] ((dX aQ qx s5 (fun(x:ac×ac)=>R x.1 x.2))):=by
 refine aX.of Tryz.func272 J J J fun w0 S0=>aw<|zo J (DE (ht J))<|zo J (aM hV)<|av<|aw<|zo J ((show bS _ _ _ _ ((dX aQ qx s5 (fun(x:ac×ac)=>(tP do1) x.1 x.2)))from iK (cts:=[bK (rT ((dX aQ qx s5 (fun(x:ac×ac)=>do1 x.1 x.2)))) ()]) (caps:=[.tmp 1]) aaH ⟨(ht J),aT⟩ (fun x y h=>UK _ _ _ h)))<|bp J<|av<|am ?_;cases so h;exact aJ J J

theorem UJ(l:(List Int)){R:Int}(h:CX l=some R):aX aQ 340 [mv l] (bM R):=by
 refine aX.of Tryz.func340 J J J fun w0 S0=>aw<|zo J (cD)<|av<|ah<|bC h fun e q_e h=>bC h fun e1 q_e1 h=>?_
 refine c9 (ts:=[_,_,_,_,_,_,_,_]) mixed J J
  ⟨eM 0 J J J (dl J),
  ⟨bY 3 0 J J J (br gT cx J (ht J) hI q_e),
  ⟨bY 4 1 J J J (bB cx J J),
  ⟨eM 0 J J J (dl J),
  ⟨bY 6 3 J J J (br gT cx J (ht J) hI q_e1),
  ⟨bY 7 4 J J J (bB cx J J),
  ⟨d8 5 2 8 5 J J J J (N8 (ht J) (ht J)),
  ⟨bY 9 6 J J J (u8 J),
  aT⟩⟩⟩⟩⟩⟩⟩⟩ ?_
 refine ax<|am ?_;cases so h;exact aJ J J

theorem U7(a1:ac)(b:ac){R:ac×Int}(h:sI a1 b=some R):aX aQ 273 [tD af a1,tD af b] (tT [tD af R.1,bM R.2]):=by
 refine aX.of Tryz.func273 J J J fun w0 S0=>aw<|zo J (jm J)<|zo J (jm J)<|aW (r:=af) (x:=ig) aH (fun _=>bj _) J fun b1=>zo J (cD)<|av<|aw<|zo J (bB aH J J)<|zo J (bB aH J J)<|zo J (aS (r:=af) (ys:=[a1,b]) (xs:=[.tmp 6,.tmp 7]) ki aH J J J J J ⟨(ht J),(ht J),aT⟩)<|bC h fun r q_r h=>zo J (aC SD (IV _ _ q_r) ⟨(zC aaG fun x y h=>UJ _ h),(ht J),aT⟩)<|zo J (gp J J)<|zo J (gp J J)<|ap aH J an J (ht J) (ht J)<|aV 4 J<|bp J<|av<|am ?_;cases so h;exact bR J J ⟨bq aH J J J,aZ J,aT⟩

theorem UI(l:(List Int)){R:Int}(h:Ee l=some R):aX aQ 341 [mv l] (bM R):=by
 refine aX.of Tryz.func341 J J J fun w0 S0=>aw<|zo J (cD)<|av<|ah<|bC h fun e q_e h=>bC h fun e1 q_e1 h=>?_
 refine c9 (ts:=[_,_,_,_,_,_,_,_]) mixed J J
  ⟨eM 0 J J J (dl J),
  ⟨bY 3 0 J J J (br gT cx J (ht J) hI q_e),
  ⟨bY 4 1 J J J (bB cx J J),
  ⟨eM 0 J J J (dl J),
  ⟨bY 6 3 J J J (br gT cx J (ht J) hI q_e1),
  ⟨bY 7 4 J J J (bB cx J J),
  ⟨d8 5 2 8 5 J J J J (N9 (ht J) (ht J)),
  ⟨bY 9 6 J J J (u8 J),
  aT⟩⟩⟩⟩⟩⟩⟩⟩ ?_
 refine ax<|am ?_;cases so h;exact aJ J J

theorem U6(a1:ac)(b:ac){R:ac×Int}(h:u9 a1 b=some R):aX aQ 274 [tD af a1,tD af b] (tT [tD af R.1,bM R.2]):=by
 refine aX.of Tryz.func274 J J J fun w0 S0=>aw<|zo J (jm J)<|zo J (jm J)<|aW (r:=af) (x:=ig) aH (fun _=>bj _) J fun b1=>zo J (cD)<|av<|aw<|zo J (bB aH J J)<|zo J (bB aH J J)<|zo J (aS (r:=af) (ys:=[a1,b]) (xs:=[.tmp 6,.tmp 7]) ki aH J J J J J ⟨(ht J),(ht J),aT⟩)<|bC h fun r q_r h=>zo J (aC SD (IV _ _ q_r) ⟨(zC aaF fun x y h=>UI _ h),(ht J),aT⟩)<|zo J (gp J J)<|zo J (gp J J)<|ap aH J an J (ht J) (ht J)<|aV 4 J<|bp J<|av<|am ?_;cases so h;exact bR J J ⟨bq aH J J J,aZ J,aT⟩

theorem Vu{R:(List (Int×(ac→ac→Option (ac×Int))))}(h:yM=some R):aX aQ 183 [] (NV (fun y:(ac→ac→Option (ac×Int))=>y7 aQ qx s5 (fun(x:ac×ac)=>y x.1 x.2)) nN R):=by
 refine aX.of Tryz.func183 J J J fun w0 S0=>aw<|zo J (aM (show aI _ _ (.const (.map none)) (tV (.map none))from fun _ _ _=>J))<|av<|aw<|bC h fun r q_r h=>zo J (aC aba (Vc _ q_r) ⟨(zC SI fun x y h=>IZ _ _ h),aT⟩)<|bp J<|av<|aw<|Aq (wY (fun y:(ac→ac→Option (ac×Int))=>y7 aQ qx s5 (fun(x:ac×ac)=>y x.1 x.2))) nN J fun b=>bC h fun r1 q_r1 h=>zo J (aC WY (OP _ q_r1) ⟨(zC aa9 fun x y h=>Vb _ h),aT⟩)<|eE (γ:=(fun y:(ac→ac→Option (ac×Int))=>y7 aQ qx s5 (fun(x:ac×ac)=>y x.1 x.2))) (y:=r1) xg (d5 kY) (ht J) (oe hI) (oQ (ht J)) fun os=>bC h fun r2 q_r2 h=>zo J (aC WY (OP _ q_r2) ⟨(zC WX fun x y h=>OO _ h),aT⟩)<|eE (γ:=(fun y:(ac→ac→Option (ac×Int))=>y7 aQ qx s5 (fun(x:ac×ac)=>y x.1 x.2))) (y:=r2) xg (d5 kY) (ht J) (oe hI) (oQ (ht J)) fun os1=>bC h fun r3 q_r3 h=>zo J (aC WW (ON _ q_r3) ⟨hB,aT⟩) ?_;refine eE (γ:=(fun y:(ac→ac→Option (ac×Int))=>y7 aQ qx s5 (fun(x:ac×ac)=>y x.1 x.2))) (y:=r3) xg (d5 kY) (ht J) (oe hI) (oQ (ht J)) fun os2=>bC h fun r4 q_r4 h=>zo J (aC WW (ON _ q_r4) ⟨hB,aT⟩)<|eE (γ:=(fun y:(ac→ac→Option (ac×Int))=>y7 aQ qx s5 (fun(x:ac×ac)=>y x.1 x.2))) (y:=r4) xg (d5 kY) (ht J) (oe hI) (oQ (ht J)) fun os3=>eE (γ:=(fun y:(ac→ac→Option (ac×Int))=>y7 aQ qx s5 (fun(x:ac×ac)=>y x.1 x.2))) (y:=CC) xg (d5 kY) (ht J) (oe hI) (oQ (zC aa8 fun x y h=>Va _ _ h)) fun os4=>eE (γ:=(fun y:(ac→ac→Option (ac×Int))=>y7 aQ qx s5 (fun(x:ac×ac)=>y x.1 x.2))) (y:=vB) xg (d5 kY) (ht J) (oe hI) (oQ (zC WV fun x y h=>OM _ _ h)) fun os5=>eE (γ:=(fun y:(ac→ac→Option (ac×Int))=>y7 aQ qx s5 (fun(x:ac×ac)=>y x.1 x.2))) (y:=CA) xg (d5 kY) (ht J) (oe hI) (oQ (zC aa7 fun x y h=>U9 _ _ h)) fun os6=>eE (γ:=(fun y:(ac→ac→Option (ac×Int))=>y7 aQ qx s5 (fun(x:ac×ac)=>y x.1 x.2))) (y:=CB) xg (d5 kY) (ht J) (oe hI) (oQ (zC aa6 fun x y h=>U8 _ _ h)) fun os7=>eE (γ:=(fun y:(ac→ac→Option (ac×Int))=>y7 aQ qx s5 (fun(x:ac×ac)=>y x.1 x.2))) (y:=ro) xg (d5 kY) (ht J) (oe hI) (oQ (zC WU fun x y h=>OL _ _ h)) fun os8=>bC h fun r5 q_r5 h=>zo J (aC SG (IY _ q_r5) ⟨(zC WU fun x y h=>OL _ _ h),aT⟩)<|eE (γ:=(fun y:(ac→ac→Option (ac×Int))=>y7 aQ qx s5 (fun(x:ac×ac)=>y x.1 x.2))) (y:=r5) xg (d5 kY) (ht J) (oe hI) (oQ (ht J)) fun os9=>eE (γ:=(fun y:(ac→ac→Option (ac×Int))=>y7 aQ qx s5 (fun(x:ac×ac)=>y x.1 x.2))) (y:=nS) xg (d5 kY) (ht J) (oe hI) (oQ (zC SI fun x y h=>IZ _ _ h)) fun os10=>aG J<|eE (γ:=(fun y:(ac→ac→Option (ac×Int))=>y7 aQ qx s5 (fun(x:ac×ac)=>y x.1 x.2))) (y:=r) xg (d5 kY) (ht J) (oe hI) (oQ (ht J)) fun os11=>aG J<|bC h fun r6 q_r6 h=>zo J (aC SG (IY _ q_r6) ⟨(ht J),aT⟩)<|eE (γ:=(fun y:(ac→ac→Option (ac×Int))=>y7 aQ qx s5 (fun(x:ac×ac)=>y x.1 x.2))) (y:=r6) xg (d5 kY) (ht J) (oe hI) (oQ (ht J)) fun os12=>bC h fun r7 q_r7 h=>zo J (aC SG (IY _ q_r7) ⟨(zC SI fun x y h=>IZ _ _ h),aT⟩)<|eE (γ:=(fun y:(ac→ac→Option (ac×Int))=>y7 aQ qx s5 (fun(x:ac×ac)=>y x.1 x.2))) (y:=r7) xg (d5 kY) (ht J) (oe hI) (oQ (ht J)) fun os13=>eE (γ:=(fun y:(ac→ac→Option (ac×Int))=>y7 aQ qx s5 (fun(x:ac×ac)=>y x.1 x.2))) (y:=sI) xg (d5 kY) (ht J) (oe hI) (oQ (zC aa5 fun x y h=>U7 _ _ h)) fun os14=>eE (γ:=(fun y:(ac→ac→Option (ac×Int))=>y7 aQ qx s5 (fun(x:ac×ac)=>y x.1 x.2))) (y:=u9) xg (d5 kY) (ht J) (oe hI) (oQ (zC aa4 fun x y h=>U6 _ _ h)) fun os15=>?_;refine aG J<|bp J<|av<|am<|LM 0 J ?_;cases so h;exact aJ J J

theorem YD{l:Option Nat}{c:Nat}{xs s:List ac}{lo:Int}{R:List ac}(hs:dA xs lo (xs.length:Int)=some s)(h:fD s=some R):cX aQ 276 [tV (oP 4 l c lo.toNat s.length)] [fj af 46 l c xs] (fun i:OI=>sb (i.h 0).1 (i.h 0).2 R) (fun i=>[fj af 46 (i.h 0).1 (i.h 0).2 R,fj af 46 l c xs]):=by
 refine cX.of Tryz.func276 J J J fun w0 S0=>aw<|zo J (aM tJ)<|av<|ah<|aw<|aG J<|Hw (r:=af) ki (.head _) hs (ht J) J fun isnil hisnil=>av<|pi (ht J) (fun hc=>?_) (fun hc=>?_)
 ·have hx:=hisnil hc
  have h:some HQ=some R:=by simpa [fD,app,hx] using h
  refine aw<|bQ false af 46<|zo J (aM tJ)<|av<|am<|ae ?_;cases so h;exact nk J (oi none 0) J J (fun _ _ h=>h)
 ·refine dS<|aw<|kh (r:=af) (ys:=HQ) (xs:=[]) ki aH J J J J J trivial J fun l1 c1=>aG J<|bC h fun x q_x h=>FO aH J J J J ki J J (ht J) (.tail _ (.head _)) hs (ht J) q_x fun l2 c2=>bp J<|av<|am ?_;cases so h;exact nk J (oi l2 c2) J J (fun _ _ h=>h)

theorem Sa(b:Nat)(l:Option Nat)(c:Nat)(stack:(List ac))(k:Int){R:(List ac)×(List ac)}(h:kL stack k=some R):cX aQ 275 [bM k,tV (aN b 0)] [bx rV 42 b (aR l c stack.length),fj af 46 l c stack] (fun i:OI=>ca (af) R.1) (fun i=>[bx rV 42 b (aR (i.h 0).1 (i.h 0).2 R.2.length),fj af 46 (i.h 0).1 (i.h 0).2 R.2]):=by
 refine cX.of Tryz.func275 J J J fun w0 S0=>aw<|zo J (aM (show aI _ _ _ (ca (af) ([]))from jQ))<|av<|aw<|zo J (gY H3 (.head _) (ht J))<|zo J (gY H3 (.head _) (ht J))<|zo J (jA ki (.tail _ (.head _)) (ht J))<|aG J<|zo J (iQ (ht J) (ht J))<|bC h fun y q_y h=>zo J (n8 ki aH J (.tail _ (.head _)) (ht J) (ht J) q_y)<|m7 (.tail _ (.head _)) q_y fun hv=>bF<|bC h fun r q_r h=>BO [fj af 46 l c stack] _ J aa3 (YD q_y q_r) ⟨(ht J),aT⟩ J fun i=>?_;refine(show RG _ _ _ _ [fj af 46 (i.h 0).1 (i.h 0).2 r,fj af 46 l c stack,bx rV 42 b (aR l c stack.length)] _ from ?_);refine bp J<|av<|aw<|zo J (gY H3 (.tail _ (.tail _ (.head _))) (ht J))<|zo J (gY H3 (.tail _ (.tail _ (.head _))) (ht J))<|zo J (jA ki (.tail _ (.head _)) (ht J))<|aG J<|zo J (iQ (ht J) (ht J))<|bC h fun y1 q_y1 h=>zo J (lh ki aH J (.tail _ (.head _)) (ht J) (ht J) q_y1)<|bF<|wD q_y1<|hT<|ap H3 J an J (ht J) (PZ (ht J))<|av<|aw<|aG J<|bp J<|av ?_;refine am<|aK<|jD<|cE 3 J<|cE 11 J<|cE 4 J<|cE 18 J<|jE 3 J<|ba<|bD<|bD ?_;cases so h;exact nk J (oi l c) J J (fun _ _ h=>h)

end Go.Proofs.YtfhhakidodmdfaaGreatDoor

