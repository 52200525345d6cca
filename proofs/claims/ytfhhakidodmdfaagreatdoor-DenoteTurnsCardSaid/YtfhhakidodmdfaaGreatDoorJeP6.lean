/- cT of this claim: P6. -/
import Derived.Test.YtfhhakidodmdfaaGreatDoorJeT
import Derived.Test.YtfhhakidodmdfaaGreatDoorJeP5
set_option linter.all false
namespace Go.Proofs.YtfhhakidodmdfaaGreatDoor
open Go
set_option maxRecDepth 100000

theorem Uq(a1:Int)(b:Int){R:Int×Bool}(h:pr a1 b=some R):aV aR 332 [bI a1,bI b] (tT [bI R.1,iz R.2]):=by
 refine aV.of Tryz.func332 J J J fun w0 S0=>aw<|zo J (cF)<|zo J (jS)<|au<|aw<|aF J<|aF J<|zo J (jf (ht J) (ht J))<|bo J<|au<|aw<|aF J<|aF J<|aF J<|zo J (BL (ht J) (ht J))<|aF J<|aF J<|zo J (BL (ht J) (ht J)) ?_;refine zo J (BO (ht J) (ht J))<|zo J (jg (ht J) hI)<|bo J<|bo J<|au<|am ?_;cases so h;exact cN J J J

theorem On(a1:ac)(b:ac){R:ac×Int}(h:vj a1 b=some R):aV aR 268 [tD af a1,tD af b] (tT [tD af R.1,bI R.2]):=by
 refine aV.of Tryz.func268 J J J fun w0 S0=>aw<|zo J (js J)<|zo J (js J)<|aY (r:=af) (x:=hJ) aG (fun _=>bh _) J fun b1=>zo J (cF)<|au<|aw<|zo J (bC aG J J)<|zo J (bC aG J J)<|bB h fun r q_r h=>zo J (aE OK (Dn _ _ _ q_r) ⟨(ht J),(ht J),(y9 aaj fun x y h=>Uq _ _ h),aS⟩)<|zo J (gV J J)<|zo J (gV J J)<|ax aG J an J (ht J) (ht J)<|aW 4 J<|bo J<|au<|am ?_;cases so h;exact bS J J ⟨br aG J J J,aZ J,aS⟩

theorem UM(a1:ac){R:ac×Int}(h:yp a1=some R):aV aR 264 [tD af a1] (tT [tD af R.1,bI R.2]):=by
 refine aV.of Tryz.func264 J J J fun w0 S0=>aw<|zo J (js J)<|aY (r:=af) (x:=hJ) aG (fun _=>bh _) J fun b=>zo J (cF)<|au<|ah<|bB h fun r q_r h=>bB h fun r1 q_r1 h=>?_
 refine tF 5 (ts:=[tD af r,tD af a1,tT [tD af r1.1,bI r1.2],tD af r1.1,bI r1.2]) mixed J J J
  ⟨Pb J J (aE KX (A1 _ q_r) ⟨hI,aS⟩),
  ⟨fb 1 J J J (bC aG J J),
  ⟨d6 4 0 5 1 J J J J (aE Ww (On _ _ q_r1) ⟨(ht J),(ht J),aS⟩),
  ⟨ca 6 2 J J J (gV J J),
  ⟨ca 6 2 J J J (gV J J),
  aS⟩⟩⟩⟩⟩ ?_
 refine ax aG J an J (ht J) (ht J)<|aW 2 J<|bo J<|au<|am ?_;cases so h;exact bS J J ⟨br aG J J J,aZ J,aS⟩

theorem Ud(v:ac){R:Int}(h:wW v=some R):aV aR 365 [tD af v] (bI R):=by
 refine aV.of Tryz.func365 J J J fun w0 S0=>aw<|zo J (js J)<|zo J (cF)<|au<|ah<|aw<|zo J (de gZ cS J J)<|zo J (bC cu J J)<|zo J (nr J)<|au<|dd h J (fun h=>?_) (fun h=>?_)
 ·refine aw<|zo J (cF)<|au<|am<|ae ?_;cases so h;exact aL J J
 ·refine dU<|aw<|zo J (de lP fk J J)<|zo J (bC FO J J)<|zo J (xo hI (ht J))<|bo J<|au<|am ?_;cases so h;exact aL J J

theorem Ix(to1:((List Int)→Option Int))(l:(List ac)){R:ac×Int}(h:nE to1 l=some R):aV aR 327 [(dX aR (fun(x:(List Int))=>[mh x]) yF (fun(x:(List Int))=>to1 x)),bZ (af) l] (tT [tD af R.1,bI R.2]):=by
 refine aV.of Tryz.func327 J J J fun w0 S0=>aw<|aY (r:=af) (x:=hJ) aG (fun _=>bh _) J fun b=>zo J (cF)<|au<|ah<|aw<|aF J<|bB h fun r q_r h=>zo J (aE Wn (Oc _ q_r) ⟨(ht J),aS⟩)<|bo J<|au<|aw<|aF J<|zo J (uL J)<|au<|dd h J (fun h=>?_) (fun h=>?_)
 ·refine aw<|zo J (cn (y:=hJ) aG qb bh (J))<|aF J<|ax aG J an J (ht J) (ht J)<|bo J<|au<|am<|ae<|bn 4 J ?_;cases so h;exact bS J J ⟨br aG J J J,aZ J,aS⟩
 ·refine dU<|aw<|bL false bT 3<|zo J (aK rr)<|au<|ah<|aw<|aF J<|zo J (iJ jY J)<|zo J (bG hI)<|au<|aA<|bc (k:=16) J fun hN=>bJ ?_;refine aT (tB (Z:=fun ls i n l1 c x=>(l.drop i=ls)∧lC to1 ls n x=some R) (Of:=fun _ i n l1 c x=>[eH bT 3 l1 c n,bx af 46 b x]) (Gf:=fun _ i n l1 c x=>[(0,(dX aR (fun(x:(List Int))=>[mh x]) yF (fun(x:(List Int))=>to1 x))),(4,tV (aP b 0)),(7,qS l1 c n),(16,bZ (af) l),(17,jr l),(18,bI (i:Int))]) (fun i n l1 c x h=>?_) (fun e tl ih i n l1 c x h=>?_) l 0 uq none 0 hJ ⟨J,h⟩) (bt J)
  ·obtain⟨hx,h⟩:=h
   refine aB<|aw<|zo J (fL J J)<|au<|ah<|bz (ht J) (du hx)<|bu ?_;refine ai (ai (aN ?_));refine av<|aw<|aF rfl<|aF rfl<|ju<|gU 7 rfl<|gU 33 rfl<|bB h fun r1 q_r1 h=>zo J (gS (args:=(fun(x:(List Int))=>[tD wT x])) (res:=SZ) (f:=(fun(x:(List Int))=>to1 x)) (x:=((n):(List Int))) (ht J) q_r1 ⟨(kT (ht J)),aS⟩)<|bB h fun e1 q_e1 h=>zo J (Qf (r:=uy af 3) (x:=gv2) gm2 gr2 (F1 Tryz.underlying344 aG J ZD (ht J) q_e1))<|zo J (bC aG J J)<|bH<|ax aG J an J (ht J) (ht J)<|zo J (cF)<|au<|am<|bn 4 J<|be ?_;cases so h;exact bS J J ⟨br aG J J J,aZ J,aS⟩
  ·obtain⟨hx,h⟩:=h
   refine aB<|aw<|zo J (fL J J)<|au<|ah<|bw (ht J) (dl hx)<|dU<|ah<|aA<|aw<|zo J (ml jY aG J J J (cX hx))<|zo J (bC aG J J)<|aY (r:=af) (x:=hJ) aG (fun _=>bh _) J fun b1=>ax aG J an J (ht J) (ht J)<|aW 9 J<|au<|ah<|aw ?_;refine zo J (de gZ cS J J)<|zo J (bC cu J J)<|zo J (gm (ht J) hI)<|au<|dd h J (fun h=>?_) (fun h=>?_)
   ·refine aw<|zo J (cn (y:=hJ) aG qb bh (J))<|bH<|ax aG J an J (ht J) (ht J)<|zo J (cF)<|au<|am ?_;refine ae (aD (ae (ae (aD (ae ?_)))));refine bn 4 J<|be ?_;cases so h;exact bS J J ⟨br aG J J J,aZ J,aS⟩
   ·refine dU<|aq<|aF J<|zo J (bC aG J J)<|bB h fun r2 q_r2 h=>zo J (aE Z6 (Ud _ q_r2) ⟨(ht J),aS⟩)<|zo J (aU (r:=bT) (ys:=[r2]) (xs:=[.tmp 28]) gF cu J J J J J ⟨(ht J),aS⟩)<|bB h fun n1 q_n1 h=>cO cu J J J J gF J J (ht J) (ht J) q_n1 fun l2 c1=>bo J<|aQ<|ap<|av<|aq<|zo rfl (lZ (cL hx hN) rfl)<|aF rfl<|aQ ?_;exact bg (aT (ih (i+1) n1 l2 c1 x ⟨cK hx,h⟩) (bt J))

theorem Ut(l:(List Int)){R:Int}(h:Cv l=some R):aV aR 328 [mh l] (bI R):=by
 refine aV.of Tryz.func328 J J J fun w0 S0=>aw<|zo J (cF)<|au<|aw<|aF J<|bB h fun e q_e h=>zo J (bp gF cu J (ht J) hI q_e)<|zo J (bC cu J J)<|zo J (jf hI (ht J))<|bo J<|au<|am ?_;cases so h;exact aL J J

theorem Oq(a1:ac){R:ac×Int}(h:qg a1=some R):aV aR 265 [tD af a1] (tT [tD af R.1,bI R.2]):=by
 refine aV.of Tryz.func265 J J J fun w0 S0=>aw<|zo J (js J)<|aY (r:=af) (x:=hJ) aG (fun _=>bh _) J fun b=>zo J (cF)<|au<|aw<|zo J (bC aG J J)<|zo J (aU (r:=af) (ys:=[a1]) (xs:=[.tmp 4]) jY aG J J J J J ⟨(ht J),aS⟩)<|bB h fun r q_r h=>zo J (aE Sf (Ix _ _ q_r) ⟨(y9 aam fun x y h=>Ut _ h),(ht J),aS⟩)<|zo J (gV J J)<|zo J (gV J J)<|ax aG J an J (ht J) (ht J)<|aW 2 J<|bo J<|au<|am ?_;cases so h;exact bS J J ⟨br aG J J J,aZ J,aS⟩

theorem Us(is1:Bool)(a1:ac)(x:ac){R:ac×Int}(h:nV is1 a1 x=some R):aV aR 329 [tD af a1,tD af x,bM rB is1] (tT [tD af R.1,bI R.2]):=by
 refine aV.of Tryz.func329 J J J fun w0 S0=>aw<|zo J (js J)<|zo J (js J)<|aY (r:=af) (x:=hJ) aG (fun _=>bh _) J fun b=>zo J (cF)<|au<|aw<|zo J (de gZ cS J J)<|zo J (bC cu J J)<|zo J (nr J)<|zo J (bC Jq J J)<|zo J (TF Nu (ht J) (ht J))<|bB h fun r q_r h=>zo J (aE Sl (IC _ q_r) ⟨(ht J),aS⟩)<|ax aG J an J (ht J) (ht J)<|aW 5 J<|zo J (cF)<|au<|am ?_;cases so h;exact bS J J ⟨br aG J J J,aZ J,aS⟩

theorem Oo(is1:Bool){R:(ac→ac→Option (ac×Int))}(h:BX is1=some R):aV aR 266 [iz is1] ((dX aR p8 sF (fun(x:ac×ac)=>R x.1 x.2))):=by
 refine aV.of Tryz.func266 J J J fun w0 S0=>aw<|zo J (js J)<|zo J (aK hV)<|au<|aw<|zo J ((show bQ _ _ _ _ ((dX aR p8 sF (fun(x:ac×ac)=>(nV is1) x.1 x.2)))from iB (cts:=[bM rB is1]) (caps:=[.tmp 1]) aal ⟨(ht J),aS⟩ (fun x y h=>Us _ _ _ h)))<|bo J<|au<|am ?_;cases so h;exact aL J J

theorem Ur(a1:Int)(b:Int){R:Int×Bool}(h:ri a1 b=some R):aV aR 331 [bI a1,bI b] (tT [bI R.1,iz R.2]):=by
 refine aV.of Tryz.func331 J J J fun w0 S0=>aw<|zo J (cF)<|zo J (jS)<|au<|aw<|aF J<|aF J<|zo J (nO (ht J) (ht J))<|bo J<|au<|aw<|aF J<|aF J<|aF J<|zo J (BL (ht J) (ht J))<|aF J<|aF J<|zo J (BL (ht J) (ht J)) ?_;refine zo J (BO (ht J) (ht J))<|zo J (jg (ht J) hI)<|bo J<|bo J<|au<|am ?_;cases so h;exact cN J J J

theorem UL(a1:ac)(b:ac){R:ac×Int}(h:Ca a1 b=some R):aV aR 267 [tD af a1,tD af b] (tT [tD af R.1,bI R.2]):=by
 refine aV.of Tryz.func267 J J J fun w0 S0=>aw<|zo J (js J)<|zo J (js J)<|aY (r:=af) (x:=hJ) aG (fun _=>bh _) J fun b1=>zo J (cF)<|au<|aw<|zo J (bC aG J J)<|zo J (bC aG J J)<|bB h fun r q_r h=>zo J (aE OK (Dn _ _ _ q_r) ⟨(ht J),(ht J),(y9 aak fun x y h=>Ur _ _ h),aS⟩)<|zo J (gV J J)<|zo J (gV J J)<|ax aG J an J (ht J) (ht J)<|aW 4 J<|bo J<|au<|am ?_;cases so h;exact bS J J ⟨br aG J J J,aZ J,aS⟩

theorem Uo(p:Int)(y:Int){R:Int×Int}(h:mU p y=some R):aV aR 334 [tD Hv p,tD Hv y] (tT [tD Hv R.1,tD Hv R.2]):=by
 refine aV.of Tryz.func334 J J J fun w0 S0=>aw<|zo J (cF)<|zo J (cF)<|au<|aw<|aF J<|zo J (BO (ht J) hI)<|bo J<|au<|aw<|aF J<|zo J (BM (ht J) hI (by decide))<|bo J<|au<|aw<|aF J ?_;refine zo J (BO (ht J) hI)<|bo J<|au<|aw<|aF J<|zo J (BM (ht J) hI (by decide))<|bo J<|au<|aw<|aF J<|aF J<|zo J (xo (ht J) (ht J))<|bo J<|au<|aw<|aF J<|aF J<|zo J (xo (ht J) (ht J)) ?_;refine aF J<|zo J (BM (ht J) hI (by decide))<|zo J (nO (ht J) (ht J))<|bo J<|au<|aw<|aF J<|zo J (BO (ht J) hI)<|bo J<|au<|aw<|aF J<|zo J (BM (ht J) hI (by decide))<|bo J<|au<|aw<|aF J<|aF J ?_;refine aF J<|zo J (xo (ht J) (ht J))<|zo J (nO (ht J) (ht J))<|bo J<|au<|aw<|aF J<|aF J<|zo J (xo (ht J) (ht J))<|aF J<|zo J (nO (ht J) (ht J))<|aF J<|zo J (BM (ht J) hI (by decide))<|zo J (nO (ht J) (ht J))<|bo J<|au<|aw<|aF J<|aF J<|zo J (xo (ht J) (ht J)) ?_;refine bo J<|au<|am ?_;cases so h;exact cN J J J

theorem Dm(n:Int){R:Int}(h:pb n=some R):aV aR 335 [bI n] (tD Hv R):=by
 refine aV.of Tryz.func335 J J J fun w0 S0=>aw<|zo J (cF)<|au<|ah<|aw<|aF J<|zo J (gD (ht J) hI)<|au<|dd h J (fun h=>?_) (fun h=>?_)
 ·refine aw<|aF J<|zo J (rX Ab Ad (ht J))<|zo J (Ia (ht J))<|bo J<|au<|am<|ae ?_;cases so h;exact aL J J
 ·refine dU<|aw<|aF J<|zo J (rX Ab Ad (ht J))<|bo J<|au<|am ?_;cases so h;exact aL J J

theorem Od(u:Int)(below:Bool){R:Int×Bool}(h:mN u below=some R):aV aR 336 [tD Hv u,iz below] (tT [bI R.1,iz R.2]):=by
 refine aV.of Tryz.func336 J J J fun w0 S0=>aw<|zo J (cF)<|zo J (jS)<|au<|ah<|aw<|aF J<|au<|dd h J (fun h=>?_) (fun h=>?_)
 ·refine aw<|aF J<|zo J (Ia (ht J))<|zo J (rX Ad Ab (ht J))<|aF J<|zo J (nN (ht J) hI)<|bo J<|bo J<|au<|am<|ae ?_;cases so h;exact cN J J J
 ·refine dU<|aw<|aF J<|zo J (rX Ad Ab (ht J))<|aF J<|zo J (nN (ht J) hI)<|bo J<|bo J<|au<|am ?_;cases so h;exact cN J J J

theorem Up(a1:Int)(b:Int){R:Int×Bool}(h:me a1 b=some R):aV aR 333 [bI a1,bI b] (tT [bI R.1,iz R.2]):=by
 refine aV.of Tryz.func333 J J J fun w0 S0=>aw<|zo J (cF)<|zo J (jS)<|au<|aw<|aF J<|bB h fun r q_r h=>zo J (aE OJ (Dm _ q_r) ⟨(ht J),aS⟩)<|aF J<|bB h fun r1 q_r1 h=>zo J (aE OJ (Dm _ q_r1) ⟨(ht J),aS⟩)<|bB h fun r2 q_r2 h=>zo J (aE aah (Uo _ _ q_r2) ⟨(ht J),(ht J),aS⟩)<|aF J<|zo J (gV J J)<|zo J (gV J J)<|bo J<|bo J<|au ?_;refine aw<|aF J<|aF J<|zo J (gD (ht J) hI)<|aF J<|zo J (gD (ht J) hI)<|zo J (NO Nu (ht J) (ht J))<|bB h fun r3 q_r3 h=>zo J (aE Wo (Od _ _ q_r3) ⟨(ht J),(ht J),aS⟩)<|aF J<|zo J (gV J J)<|zo J (gV J J)<|bo J<|bo J<|au<|aw<|aF J<|aF J<|aF J<|dK J J (fun hg=>dv J)<|dK J J (fun hg=>dw (bP J hg) hI) ?_;refine zo J (uK J J)<|bo J<|bo J<|au<|am ?_;cases so h;exact cN J J J

theorem UK(a1:ac)(b:ac){R:ac×Int}(h:B8 a1 b=some R):aV aR 269 [tD af a1,tD af b] (tT [tD af R.1,bI R.2]):=by
 refine aV.of Tryz.func269 J J J fun w0 S0=>aw<|zo J (js J)<|zo J (js J)<|aY (r:=af) (x:=hJ) aG (fun _=>bh _) J fun b1=>zo J (cF)<|au<|aw<|zo J (bC aG J J)<|zo J (bC aG J J)<|bB h fun r q_r h=>zo J (aE OK (Dn _ _ _ q_r) ⟨(ht J),(ht J),(y9 aai fun x y h=>Up _ _ h),aS⟩)<|zo J (gV J J)<|zo J (gV J J)<|ax aG J an J (ht J) (ht J)<|aW 4 J<|bo J<|au<|am ?_;cases so h;exact bS J J ⟨br aG J J J,aZ J,aS⟩

theorem Un(a1:Int)(b:Int){R:Int×Bool}(h:mf a1 b=some R):aV aR 337 [bI a1,bI b] (tT [bI R.1,iz R.2]):=by
 refine aV.of Tryz.func337 J J J fun w0 S0=>aw<|zo J (cF)<|zo J (jS)<|au<|ah<|aw<|aF J<|zo J (nr J)<|au<|dd h J (fun h=>?_) (fun h=>?_)
 ·refine aw<|zo J (cF)<|zo J (jS)<|au<|am<|ae ?_;cases so h;exact cN J J J
 ·refine dU<|aw<|aF J<|bB h fun r q_r h=>zo J (aE OJ (Dm _ q_r) ⟨(ht J),aS⟩)<|aF J<|bB h fun r1 q_r1 h=>zo J (aE OJ (Dm _ q_r1) ⟨(ht J),aS⟩)<|bB h fun u q_u h=>zo J (Xy (ht J) (ht J) (NR q_u))<|aF J<|zo J (gD (ht J) hI)<|aF J<|zo J (gD (ht J) hI)<|zo J (NO Nu (ht J) (ht J))<|bB h fun r2 q_r2 h=>zo J (aE Wo (Od _ _ q_r2) ⟨(ht J),(ht J),aS⟩)<|zo J (gV J J)<|zo J (gV J J)<|bo J<|bo J<|aQ ?_;refine av<|am ?_;cases so h;exact cN J J J

theorem UJ(a1:ac)(b:ac){R:ac×Int}(h:B9 a1 b=some R):aV aR 270 [tD af a1,tD af b] (tT [tD af R.1,bI R.2]):=by
 refine aV.of Tryz.func270 J J J fun w0 S0=>aw<|zo J (js J)<|zo J (js J)<|aY (r:=af) (x:=hJ) aG (fun _=>bh _) J fun b1=>zo J (cF)<|au<|aw<|zo J (bC aG J J)<|zo J (bC aG J J)<|bB h fun r q_r h=>zo J (aE OK (Dn _ _ _ q_r) ⟨(ht J),(ht J),(y9 aag fun x y h=>Un _ _ h),aS⟩)<|zo J (gV J J)<|zo J (gV J J)<|ax aG J an J (ht J) (ht J)<|aW 4 J<|bo J<|au<|am ?_;cases so h;exact bS J J ⟨br aG J J J,aZ J,aS⟩

theorem Um(c:Int){R:Bool}(h:yU c=some R):aV aR 338 [bI c] (iz R):=by
 refine aV.of Tryz.func338 J J J fun w0 S0=>aw<|zo J (jS)<|au<|aw<|aF J<|zo J (nr J)<|bo J<|au<|am ?_;cases so h;exact aL J J

theorem Ol(a1:ac)(b:ac){R:ac×Int}(h:qV a1 b=some R):aV aR 271 [tD af a1,tD af b] (tT [tD af R.1,bI R.2]):=by
 refine aV.of Tryz.func271 J J J fun w0 S0=>aw<|zo J (js J)<|zo J (js J)<|aY (r:=af) (x:=hJ) aG (fun _=>bh _) J fun b1=>zo J (cF)<|au<|aw<|zo J (bC aG J J)<|zo J (bC aG J J)<|bB h fun r q_r h=>zo J (aE Wp (Oe _ _ _ q_r) ⟨(ht J),(ht J),(y9 aaf fun x y h=>Um _ h),aS⟩)<|zo J (gV J J)<|zo J (gV J J)<|ax aG J an J (ht J) (ht J)<|aW 4 J<|bo J<|au<|am ?_;cases so h;exact bS J J ⟨br aG J J J,aZ J,aS⟩

theorem Ul(do1:(ac→ac→Option (ac×Int)))(a1:ac)(b:ac){R:ac×Int}(h:tf do1 a1 b=some R):aV aR 339 [tD af a1,tD af b,bM (rT ((dX aR p8 sF (fun(x:ac×ac)=>do1 x.1 x.2)))) ()] (tT [tD af R.1,bI R.2]):=by
 refine aV.of Tryz.func339 J J J fun w0 S0=>aw<|zo J (js J)<|zo J (js J)<|aY (r:=af) (x:=hJ) aG (fun _=>bh _) J fun b1=>zo J (cF)<|au<|aw<|zo J (u0 V0 (ht J))<|zo J (bC aG J J)<|zo J (bC aG J J)<|bB h fun r q_r h=>zo J (gS (args:=p8) (res:=CZ) (f:=(fun(x:ac×ac)=>do1 x.1 x.2)) (x:=((a1,b):ac×ac)) (ht J) q_r ⟨(ht J),(ht J),aS⟩)<|aF J<|zo J (gV J J)<|zo J (gV J J)<|aY (r:=af) (x:=hJ) aG (fun _=>bh _) J fun b2=>ax aG J an J (ht J) (ht J)<|aW 7 J<|bo J<|aQ ?_;refine av<|ah<|aw<|aF rfl<|zo rfl (uL rfl)<|au<|dd h rfl (fun h=>?_) (fun h=>?_)
 ·refine aw<|zo J (bC aG J J)<|aF J<|ax aG J an J (ht J) (ht J)<|bo J<|au<|am<|ae<|bn 5 J ?_;cases so h;exact bS J J ⟨br aG J J J,aZ J,aS⟩
 ·refine dU<|aw<|zo J (bC aG J J)<|bB h fun r1 q_r1 h=>zo J (aE Wy (Oq _ q_r1) ⟨(ht J),aS⟩)<|zo J (gV J J)<|zo J (gV J J)<|ax aG J an J (ht J) (ht J)<|bo J<|au<|am<|bn 5 J ?_;cases so h;exact bS J J ⟨br aG J J J,aZ J,aS⟩

theorem IA(do1:(ac→ac→Option (ac×Int))){R:(ac→ac→Option (ac×Int))}(h:A3 do1=some R):aV aR 272 [(dX aR p8 sF (fun(x:ac×ac)=>do1 x.1 x.2))] ((dX aR p8 sF (fun(x:ac×ac)=>R x.1 x.2))):=by
 refine aV.of Tryz.func272 J J J fun w0 S0=>aw<|zo J (Di (ht J))<|zo J (aK hV)<|au<|aw<|zo J ((show bQ _ _ _ _ ((dX aR p8 sF (fun(x:ac×ac)=>(tf do1) x.1 x.2)))from iB (cts:=[bM (rT ((dX aR p8 sF (fun(x:ac×ac)=>do1 x.1 x.2)))) ()]) (caps:=[.tmp 1]) aae ⟨(ht J),aS⟩ (fun x y h=>Ul _ _ _ h)))<|bo J<|au<|am ?_;cases so h;exact aL J J

theorem Uk(l:(List Int)){R:Int}(h:Cw l=some R):aV aR 340 [mh l] (bI R):=by
 refine aV.of Tryz.func340 J J J fun w0 S0=>aw<|zo J (cF)<|au<|ah<|bB h fun e q_e h=>bB h fun e1 q_e1 h=>?_
 refine dc (ts:=[_,_,_,_,_,_,_,_]) mixed J J
  ⟨fb 0 J J J (dv J),
  ⟨ca 3 0 J J J (bp gF cu J (ht J) hI q_e),
  ⟨ca 4 1 J J J (bC cu J J),
  ⟨fb 0 J J J (dv J),
  ⟨ca 6 3 J J J (bp gF cu J (ht J) hI q_e1),
  ⟨ca 7 4 J J J (bC cu J J),
  ⟨d6 5 2 8 5 J J J J (NP (ht J) (ht J)),
  ⟨ca 9 6 J J J (uM J),
  aS⟩⟩⟩⟩⟩⟩⟩⟩ ?_
 refine av<|am ?_;cases so h;exact aL J J

theorem UI(a1:ac)(b:ac){R:ac×Int}(h:sf a1 b=some R):aV aR 273 [tD af a1,tD af b] (tT [tD af R.1,bI R.2]):=by
 refine aV.of Tryz.func273 J J J fun w0 S0=>aw<|zo J (js J)<|zo J (js J)<|aY (r:=af) (x:=hJ) aG (fun _=>bh _) J fun b1=>zo J (cF)<|au<|aw<|zo J (bC aG J J)<|zo J (bC aG J J)<|zo J (aU (r:=af) (ys:=[a1,b]) (xs:=[.tmp 6,.tmp 7]) jY aG J J J J J ⟨(ht J),(ht J),aS⟩)<|bB h fun r q_r h=>zo J (aE Sf (Ix _ _ q_r) ⟨(y9 aad fun x y h=>Uk _ h),(ht J),aS⟩)<|zo J (gV J J)<|zo J (gV J J)<|ax aG J an J (ht J) (ht J)<|aW 4 J<|bo J<|au<|am ?_;cases so h;exact bS J J ⟨br aG J J J,aZ J,aS⟩

theorem Uj(l:(List Int)){R:Int}(h:DQ l=some R):aV aR 341 [mh l] (bI R):=by
 refine aV.of Tryz.func341 J J J fun w0 S0=>aw<|zo J (cF)<|au<|ah<|bB h fun e q_e h=>bB h fun e1 q_e1 h=>?_
 refine dc (ts:=[_,_,_,_,_,_,_,_]) mixed J J
  ⟨fb 0 J J J (dv J),
  ⟨ca 3 0 J J J (bp gF cu J (ht J) hI q_e),
  ⟨ca 4 1 J J J (bC cu J J),
  ⟨fb 0 J J J (dv J),
  ⟨ca 6 3 J J J (bp gF cu J (ht J) hI q_e1),
  ⟨ca 7 4 J J J (bC cu J J),
  ⟨d6 5 2 8 5 J J J J (Ib (ht J) (ht J)),
  ⟨ca 9 6 J J J (uM J),
  aS⟩⟩⟩⟩⟩⟩⟩⟩ ?_
 refine av<|am ?_;cases so h;exact aL J J

theorem UH(a1:ac)(b:ac){R:ac×Int}(h:uN a1 b=some R):aV aR 274 [tD af a1,tD af b] (tT [tD af R.1,bI R.2]):=by
 refine aV.of Tryz.func274 J J J fun w0 S0=>aw<|zo J (js J)<|zo J (js J)<|aY (r:=af) (x:=hJ) aG (fun _=>bh _) J fun b1=>zo J (cF)<|au<|aw<|zo J (bC aG J J)<|zo J (bC aG J J)<|zo J (aU (r:=af) (ys:=[a1,b]) (xs:=[.tmp 6,.tmp 7]) jY aG J J J J J ⟨(ht J),(ht J),aS⟩)<|bB h fun r q_r h=>zo J (aE Sf (Ix _ _ q_r) ⟨(y9 aac fun x y h=>Uj _ h),(ht J),aS⟩)<|zo J (gV J J)<|zo J (gV J J)<|ax aG J an J (ht J) (ht J)<|aW 4 J<|bo J<|au<|am ?_;cases so h;exact bS J J ⟨br aG J J J,aZ J,aS⟩

theorem U5{R:(List (Int×(ac→ac→Option (ac×Int))))}(h:yk=some R):aV aR 183 [] (NC (fun y:(ac→ac→Option (ac×Int))=>yG aR p8 sF (fun(x:ac×ac)=>y x.1 x.2)) kP R):=by
 refine aV.of Tryz.func183 J J J fun w0 S0=>aw<|zo J (aK (show aH _ _ (.const (.map none)) (tV (.map none))from fun _ _ _=>J))<|au<|aw<|bB h fun r q_r h=>zo J (aE aaI (UN _ q_r) ⟨(y9 Sk fun x y h=>IB _ _ h),aS⟩)<|bo J<|au<|aw<|wc (uz (fun y:(ac→ac→Option (ac×Int))=>yG aR p8 sF (fun(x:ac×ac)=>y x.1 x.2))) kP J fun b=>bB h fun r1 q_r1 h=>zo J (aE Wz (Ot _ q_r1) ⟨(y9 aaH fun x y h=>UM _ h),aS⟩)<|eC (γ:=(fun y:(ac→ac→Option (ac×Int))=>yG aR p8 sF (fun(x:ac×ac)=>y x.1 x.2))) (y:=r1) wK (dT kC) (ht J) (nt hI) (oz (ht J)) fun os=>bB h fun r2 q_r2 h=>zo J (aE Wz (Ot _ q_r2) ⟨(y9 Wy fun x y h=>Oq _ h),aS⟩)<|eC (γ:=(fun y:(ac→ac→Option (ac×Int))=>yG aR p8 sF (fun(x:ac×ac)=>y x.1 x.2))) (y:=r2) wK (dT kC) (ht J) (nt hI) (oz (ht J)) fun os1=>bB h fun r3 q_r3 h=>zo J (aE Wx (Oo _ q_r3) ⟨hB,aS⟩) ?_;refine eC (γ:=(fun y:(ac→ac→Option (ac×Int))=>yG aR p8 sF (fun(x:ac×ac)=>y x.1 x.2))) (y:=r3) wK (dT kC) (ht J) (nt hI) (oz (ht J)) fun os2=>bB h fun r4 q_r4 h=>zo J (aE Wx (Oo _ q_r4) ⟨hB,aS⟩)<|eC (γ:=(fun y:(ac→ac→Option (ac×Int))=>yG aR p8 sF (fun(x:ac×ac)=>y x.1 x.2))) (y:=r4) wK (dT kC) (ht J) (nt hI) (oz (ht J)) fun os3=>eC (γ:=(fun y:(ac→ac→Option (ac×Int))=>yG aR p8 sF (fun(x:ac×ac)=>y x.1 x.2))) (y:=Ca) wK (dT kC) (ht J) (nt hI) (oz (y9 aaG fun x y h=>UL _ _ h)) fun os4=>eC (γ:=(fun y:(ac→ac→Option (ac×Int))=>yG aR p8 sF (fun(x:ac×ac)=>y x.1 x.2))) (y:=vj) wK (dT kC) (ht J) (nt hI) (oz (y9 Ww fun x y h=>On _ _ h)) fun os5=>eC (γ:=(fun y:(ac→ac→Option (ac×Int))=>yG aR p8 sF (fun(x:ac×ac)=>y x.1 x.2))) (y:=B8) wK (dT kC) (ht J) (nt hI) (oz (y9 aaF fun x y h=>UK _ _ h)) fun os6=>eC (γ:=(fun y:(ac→ac→Option (ac×Int))=>yG aR p8 sF (fun(x:ac×ac)=>y x.1 x.2))) (y:=B9) wK (dT kC) (ht J) (nt hI) (oz (y9 aaE fun x y h=>UJ _ _ h)) fun os7=>eC (γ:=(fun y:(ac→ac→Option (ac×Int))=>yG aR p8 sF (fun(x:ac×ac)=>y x.1 x.2))) (y:=qV) wK (dT kC) (ht J) (nt hI) (oz (y9 Wv fun x y h=>Ol _ _ h)) fun os8=>bB h fun r5 q_r5 h=>zo J (aE Sj (IA _ q_r5) ⟨(y9 Wv fun x y h=>Ol _ _ h),aS⟩)<|eC (γ:=(fun y:(ac→ac→Option (ac×Int))=>yG aR p8 sF (fun(x:ac×ac)=>y x.1 x.2))) (y:=r5) wK (dT kC) (ht J) (nt hI) (oz (ht J)) fun os9=>eC (γ:=(fun y:(ac→ac→Option (ac×Int))=>yG aR p8 sF (fun(x:ac×ac)=>y x.1 x.2))) (y:=nF) wK (dT kC) (ht J) (nt hI) (oz (y9 Sk fun x y h=>IB _ _ h)) fun os10=>aF J<|eC (γ:=(fun y:(ac→ac→Option (ac×Int))=>yG aR p8 sF (fun(x:ac×ac)=>y x.1 x.2))) (y:=r) wK (dT kC) (ht J) (nt hI) (oz (ht J)) fun os11=>aF J<|bB h fun r6 q_r6 h=>zo J (aE Sj (IA _ q_r6) ⟨(ht J),aS⟩)<|eC (γ:=(fun y:(ac→ac→Option (ac×Int))=>yG aR p8 sF (fun(x:ac×ac)=>y x.1 x.2))) (y:=r6) wK (dT kC) (ht J) (nt hI) (oz (ht J)) fun os12=>bB h fun r7 q_r7 h=>zo J (aE Sj (IA _ q_r7) ⟨(y9 Sk fun x y h=>IB _ _ h),aS⟩)<|eC (γ:=(fun y:(ac→ac→Option (ac×Int))=>yG aR p8 sF (fun(x:ac×ac)=>y x.1 x.2))) (y:=r7) wK (dT kC) (ht J) (nt hI) (oz (ht J)) fun os13=>eC (γ:=(fun y:(ac→ac→Option (ac×Int))=>yG aR p8 sF (fun(x:ac×ac)=>y x.1 x.2))) (y:=sf) wK (dT kC) (ht J) (nt hI) (oz (y9 aaD fun x y h=>UI _ _ h)) fun os14=>eC (γ:=(fun y:(ac→ac→Option (ac×Int))=>yG aR p8 sF (fun(x:ac×ac)=>y x.1 x.2))) (y:=uN) wK (dT kC) (ht J) (nt hI) (oz (y9 aaC fun x y h=>UH _ _ h)) fun os15=>?_;refine aF J<|bo J<|au<|am<|Lt 0 J ?_;cases so h;exact aL J J

theorem X7{l:Option Nat}{c:Nat}{xs s:List ac}{lo:Int}{R:List ac}(hs:dj xs lo (xs.length:Int)=some s)(h:fy s=some R):c0 aR 276 [tV (oy 4 l c lo.toNat s.length)] [eH af 46 l c xs] (fun i:OI=>qS (i.h 0).1 (i.h 0).2 R) (fun i=>[eH af 46 (i.h 0).1 (i.h 0).2 R,eH af 46 l c xs]):=by
 refine c0.of Tryz.func276 J J J fun w0 S0=>aw<|zo J (aK rr)<|au<|ah<|aw<|aF J<|Hd (r:=af) jY (.head _) hs (ht J) J fun isnil hisnil=>au<|oS (ht J) (fun hc=>?_) (fun hc=>?_)
 ·have hx:=hisnil hc
  have h:some Hw=some R:=by simpa [fy,app,hx] using h
  refine aw<|bL false af 46<|zo J (aK rr)<|au<|am<|ae ?_;cases so h;exact m8 J (oi none 0) J J (fun _ _ h=>h)
 ·refine dU<|aw<|jX (r:=af) (ys:=Hw) (xs:=[]) jY aG J J J J J trivial J fun l1 c1=>aF J<|bB h fun x q_x h=>Fq aG J J J J jY J J (ht J) (.tail _ (.head _)) hs (ht J) q_x fun l2 c2=>bo J<|au<|am ?_;cases so h;exact m8 J (oi l2 c2) J J (fun _ _ h=>h)

theorem RQ(b:Nat)(l:Option Nat)(c:Nat)(stack:(List ac))(k:Int){R:(List ac)×(List ac)}(h:ku stack k=some R):c0 aR 275 [bI k,tV (aP b 0)] [bx rV 42 b (aO l c stack.length),eH af 46 l c stack] (fun i:OI=>bZ (af) R.1) (fun i=>[bx rV 42 b (aO (i.h 0).1 (i.h 0).2 R.2.length),eH af 46 (i.h 0).1 (i.h 0).2 R.2]):=by
 refine c0.of Tryz.func275 J J J fun w0 S0=>aw<|zo J (aK (show aH _ _ _ (bZ (af) ([]))from jO))<|au<|aw<|zo J (gR HG (.head _) (ht J))<|zo J (gR HG (.head _) (ht J))<|zo J (i9 jY (.tail _ (.head _)) (ht J))<|aF J<|zo J (jf (ht J) (ht J))<|bB h fun y q_y h=>zo J (nM jY aG J (.tail _ (.head _)) (ht J) (ht J) q_y)<|mQ (.tail _ (.head _)) q_y fun hv=>bH<|bB h fun r q_r h=>xI [eH af 46 l c stack] _ J aaB (X7 q_y q_r) ⟨(ht J),aS⟩ J fun i=>?_;refine(show RG _ _ _ _ [eH af 46 (i.h 0).1 (i.h 0).2 r,eH af 46 l c stack,bx rV 42 b (aO l c stack.length)] _ from ?_);refine bo J<|au<|aw<|zo J (gR HG (.tail _ (.tail _ (.head _))) (ht J))<|zo J (gR HG (.tail _ (.tail _ (.head _))) (ht J))<|zo J (i9 jY (.tail _ (.head _)) (ht J))<|aF J<|zo J (jf (ht J) (ht J))<|bB h fun y1 q_y1 h=>zo J (kX jY aG J (.tail _ (.head _)) (ht J) (ht J) q_y1)<|bH<|we q_y1<|fK<|ax HG J an J (ht J) (PE (ht J))<|au<|aw<|aF J<|bo J<|au ?_;refine am<|aJ<|jv<|cE 3 J<|cE 11 J<|cE 4 J<|cE 18 J<|jw 3 J<|be<|bv<|bv ?_;cases so h;exact m8 J (oi l c) J J (fun _ _ h=>h)

end Go.Proofs.YtfhhakidodmdfaaGreatDoor

