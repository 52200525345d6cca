/- di of this claim: P6. -/
import Derived.Test.YtfhhakidodmdfaaGreatDoorJcT
import Derived.Test.YtfhhakidodmdfaaGreatDoorJcP5
set_option linter.all false
namespace Go.Proofs.YtfhhakidodmdfaaGreatDoor
open Go
set_option maxRecDepth 100000

theorem UU(a1:Int)(b:Int){R:Int×Bool}(h:pW a1 b=some R):aR aU 332 [bM a1,bM b] (tT [bM R.1,hJ R.2]):=by
 refine aR.of Tryz.func332 J J J fun w0 S0=>av<|zo J (bW)<|zo J (jU)<|aq<|av<|aE J<|aE J<|zo J (ft (ht J) (ht J))<|bg J<|aq<|av<|aE J<|aE J<|aE J<|zo J (Cg (ht J) (ht J))<|aE J<|aE J<|zo J (Cg (ht J) (ht J)) ?_;refine zo J (Ci (ht J) (ht J))<|zo J (gh (ht J) hI)<|bg J<|bg J<|aq<|aj ?_;cases so h;exact cW J J J

theorem OT(a1:ac)(b:ac){R:ac×Int}(h:vR a1 b=some R):aR aU 268 [tD af a1,tD af b] (tT [tD af R.1,bM R.2]):=by
 refine aR.of Tryz.func268 J J J fun w0 S0=>av<|zo J (gi J)<|zo J (gi J)<|aP (r:=af) (x:=d3) au (fun _=>aJ _) J fun b1=>zo J (bW)<|aq<|av<|zo J (bh au J J)<|zo J (bh au J J)<|bo h fun r q_r h=>zo J (ap Pi (DQ _ _ _ q_r) ⟨(ht J),(ht J),(zJ aaY fun x y h=>UU _ _ h),aL⟩)<|zo J (dX J J)<|zo J (dX J J)<|am au J ai J (ht J) (ht J)<|aY 4 J<|bg J<|aq<|aj ?_;cases so h;exact be J J ⟨aN au J J J,aK J,aL⟩

theorem Vj(a1:ac){R:ac×Int}(h:yY a1=some R):aR aU 264 [tD af a1] (tT [tD af R.1,bM R.2]):=by
 refine aR.of Tryz.func264 J J J fun w0 S0=>av<|zo J (gi J)<|aP (r:=af) (x:=d3) au (fun _=>aJ _) J fun b=>zo J (bW)<|aq<|ah<|bo h fun r q_r h=>bo h fun r1 q_r1 h=>?_
 refine my 5 (ts:=[tD af r,tD af a1,tT [tD af r1.1,bM r1.2],tD af r1.1,bM r1.2]) mixed J J J
  ⟨NX J J (ap Lv (Bt _ q_r) ⟨hI,aL⟩),
  ⟨dB 1 J J J (bh au J J),
  ⟨cK 4 0 5 1 J J J J (ap Xs (OT _ _ q_r1) ⟨(ht J),(ht J),aL⟩),
  ⟨bT 6 2 J J J (dX J J),
  ⟨bT 6 2 J J J (dX J J),
  aL⟩⟩⟩⟩⟩ ?_
 refine am au J ai J (ht J) (ht J)<|aY 2 J<|bg J<|aq<|aj ?_;cases so h;exact be J J ⟨aN au J J J,aK J,aL⟩

theorem UI(v:ac){R:Int}(h:xD v=some R):aR aU 365 [tD af v] (bM R):=by
 refine aR.of Tryz.func365 J J J fun w0 S0=>av<|zo J (gi J)<|zo J (bW)<|aq<|ah<|av<|zo J (bX cz br J J)<|zo J (bh cg J J)<|zo J (hM J)<|aq<|ce h J (fun h=>?_) (fun h=>?_)
 ·refine av<|zo J (bW)<|aq<|aj<|ae ?_;cases so h;exact aH J J
 ·refine df<|av<|zo J (bX eE bY J J)<|zo J (bh uq J J)<|zo J (xV hI (ht J))<|bg J<|aq<|aj ?_;cases so h;exact aH J J

theorem IT(to1:((List Int)→Option Int))(l:(List ac)){R:ac×Int}(h:nS to1 l=some R):aR aU 327 [(ei aU (fun(x:(List Int))=>[mH x]) ze (fun(x:(List Int))=>to1 x)),cq (af) l] (tT [tD af R.1,bM R.2]):=by
 refine aR.of Tryz.func327 J J J fun w0 S0=>av<|aP (r:=af) (x:=d3) au (fun _=>aJ _) J fun b=>zo J (bW)<|aq<|ah<|av<|aE J<|bo h fun r q_r h=>zo J (ap Xg (OH _ q_r) ⟨(ht J),aL⟩)<|bg J<|aq<|av<|aE J<|zo J (sx J)<|aq<|ce h J (fun h=>?_) (fun h=>?_)
 ·refine av<|zo J (bB (y:=d3) au gW aJ (J))<|aE J<|am au J ai J (ht J) (ht J)<|bg J<|aq<|aj<|ae<|aF 4 J ?_;cases so h;exact be J J ⟨aN au J J J,aK J,aL⟩
 ·refine df<|av<|ca false cj 3<|zo J (aT tg)<|aq<|ah<|av<|aE J<|zo J (jw i7 J)<|zo J (bJ hI)<|aq<|aC<|bp (k:=16) J fun hN=>bQ ?_;refine ba (su (Z:=fun ls i n l1 c x=>(l.drop i=ls)∧lY to1 ls n x=some R) (Of:=fun _ i n l1 c x=>[fL cj 3 l1 c n,bx af 46 b x]) (Gf:=fun _ i n l1 c x=>[(0,(ei aU (fun(x:(List Int))=>[mH x]) ze (fun(x:(List Int))=>to1 x))),(4,tV (aS b 0)),(7,sw l1 c n),(16,cq (af) l),(17,ky l),(18,bM (i:Int))]) (fun i n l1 c x h=>?_) (fun e tl ih i n l1 c x h=>?_) l 0 vn none 0 d3 ⟨J,h⟩) (bD J)
  ·obtain⟨hx,h⟩:=h
   refine aG<|av<|zo J (fY J J)<|aq<|ah<|bL (ht J) (dO hx)<|bG ?_;refine ak (ak (aV ?_));refine ax<|av<|aE rfl<|aE rfl<|kO<|jM 7 rfl<|jM 33 rfl<|bo h fun r1 q_r1 h=>zo J (io (args:=(fun(x:(List Int))=>[tD xA x])) (res:=TK) (f:=(fun(x:(List Int))=>to1 x)) (x:=((n):(List Int))) (ht J) q_r1 ⟨(lJ (ht J)),aL⟩)<|bo h fun e1 q_e1 h=>zo J (QM (r:=n8 af 3) (x:=gv2) gm2 gr2 (ek Tryz.underlying344 au J aae (ht J) q_e1))<|zo J (bh au J J)<|bq<|am au J ai J (ht J) (ht J)<|zo J (bW)<|aq<|aj<|aF 4 J<|aZ ?_;cases so h;exact be J J ⟨aN au J J J,aK J,aL⟩
  ·obtain⟨hx,h⟩:=h
   refine aG<|av<|zo J (fY J J)<|aq<|ah<|bK (ht J) (dL hx)<|df<|ah<|aC<|av<|zo J (ne i7 au J J J (dA hx))<|zo J (bh au J J)<|aP (r:=af) (x:=d3) au (fun _=>aJ _) J fun b1=>am au J ai J (ht J) (ht J)<|aY 9 J<|aq<|ah<|av ?_;refine zo J (bX cz br J J)<|zo J (bh cg J J)<|zo J (iz (ht J) hI)<|aq<|ce h J (fun h=>?_) (fun h=>?_)
   ·refine av<|zo J (bB (y:=d3) au gW aJ (J))<|bq<|am au J ai J (ht J) (ht J)<|zo J (bW)<|aq<|aj ?_;refine ae (aB (ae (ae (aB (ae ?_)))));refine aF 4 J<|aZ ?_;cases so h;exact be J J ⟨aN au J J J,aK J,aL⟩
   ·refine df<|aA<|aE J<|zo J (bh au J J)<|bo h fun r2 q_r2 h=>zo J (ap aaL (UI _ q_r2) ⟨(ht J),aL⟩)<|zo J (bf (r:=cj) (ys:=[r2]) (xs:=[.tmp 28]) iv cg J J J J J ⟨(ht J),aL⟩)<|bo h fun n1 q_n1 h=>cV cg J J J J iv J J (ht J) (ht J) q_n1 fun l2 c1=>bg J<|aQ<|aw<|ax<|aA<|zo rfl (nf (dd hx hN) rfl)<|aE rfl<|aQ ?_;exact bn (ba (ih (i+1) n1 l2 c1 x ⟨dc hx,h⟩) (bD J))

theorem UX(l:(List Int)){R:Int}(h:CZ l=some R):aR aU 328 [mH l] (bM R):=by
 refine aR.of Tryz.func328 J J J fun w0 S0=>av<|zo J (bW)<|aq<|av<|aE J<|bo h fun e q_e h=>zo J (bF iv cg J (ht J) hI q_e)<|zo J (bh cg J J)<|zo J (ft hI (ht J))<|bg J<|aq<|aj ?_;cases so h;exact aH J J

theorem OV(a1:ac){R:ac×Int}(h:qT a1=some R):aR aU 265 [tD af a1] (tT [tD af R.1,bM R.2]):=by
 refine aR.of Tryz.func265 J J J fun w0 S0=>av<|zo J (gi J)<|aP (r:=af) (x:=d3) au (fun _=>aJ _) J fun b=>zo J (bW)<|aq<|av<|zo J (bh au J J)<|zo J (bf (r:=af) (ys:=[a1]) (xs:=[.tmp 4]) i7 au J J J J J ⟨(ht J),aL⟩)<|bo h fun r q_r h=>zo J (ap ST (IT _ _ q_r) ⟨(zJ aa1 fun x y h=>UX _ h),(ht J),aL⟩)<|zo J (dX J J)<|zo J (dX J J)<|am au J ai J (ht J) (ht J)<|aY 2 J<|bg J<|aq<|aj ?_;cases so h;exact be J J ⟨aN au J J J,aK J,aL⟩

theorem UW(is1:Bool)(a1:ac)(x:ac){R:ac×Int}(h:oj is1 a1 x=some R):aR aU 329 [tD af a1,tD af x,bN rB is1] (tT [tD af R.1,bM R.2]):=by
 refine aR.of Tryz.func329 J J J fun w0 S0=>av<|zo J (gi J)<|zo J (gi J)<|aP (r:=af) (x:=d3) au (fun _=>aJ _) J fun b=>zo J (bW)<|aq<|av<|zo J (bX cz br J J)<|zo J (bh cg J J)<|zo J (hM J)<|zo J (bh yy J J)<|zo J (Iu CX (ht J) (ht J))<|bo h fun r q_r h=>zo J (ap SZ (IZ _ q_r) ⟨(ht J),aL⟩)<|am au J ai J (ht J) (ht J)<|aY 5 J<|zo J (bW)<|aq<|aj ?_;cases so h;exact be J J ⟨aN au J J J,aK J,aL⟩

theorem OU(is1:Bool){R:(ac→ac→Option (ac×Int))}(h:Cq is1=some R):aR aU 266 [hJ is1] ((ei aU qH tA (fun(x:ac×ac)=>R x.1 x.2))):=by
 refine aR.of Tryz.func266 J J J fun w0 S0=>av<|zo J (gi J)<|zo J (aT hV)<|aq<|av<|zo J ((show bZ _ _ _ _ ((ei aU qH tA (fun(x:ac×ac)=>(oj is1) x.1 x.2)))from i8 (cts:=[bN rB is1]) (caps:=[.tmp 1]) aa0 ⟨(ht J),aL⟩ (fun x y h=>UW _ _ _ h)))<|bg J<|aq<|aj ?_;cases so h;exact aH J J

theorem UV(a1:Int)(b:Int){R:Int×Bool}(h:sr a1 b=some R):aR aU 331 [bM a1,bM b] (tT [bM R.1,hJ R.2]):=by
 refine aR.of Tryz.func331 J J J fun w0 S0=>av<|zo J (bW)<|zo J (jU)<|aq<|av<|aE J<|aE J<|zo J (fV (ht J) (ht J))<|bg J<|aq<|av<|aE J<|aE J<|aE J<|zo J (Cg (ht J) (ht J))<|aE J<|aE J<|zo J (Cg (ht J) (ht J)) ?_;refine zo J (Ci (ht J) (ht J))<|zo J (gh (ht J) hI)<|bg J<|bg J<|aq<|aj ?_;cases so h;exact cW J J J

theorem Vi(a1:ac)(b:ac){R:ac×Int}(h:CD a1 b=some R):aR aU 267 [tD af a1,tD af b] (tT [tD af R.1,bM R.2]):=by
 refine aR.of Tryz.func267 J J J fun w0 S0=>av<|zo J (gi J)<|zo J (gi J)<|aP (r:=af) (x:=d3) au (fun _=>aJ _) J fun b1=>zo J (bW)<|aq<|av<|zo J (bh au J J)<|zo J (bh au J J)<|bo h fun r q_r h=>zo J (ap Pi (DQ _ _ _ q_r) ⟨(ht J),(ht J),(zJ aaZ fun x y h=>UV _ _ h),aL⟩)<|zo J (dX J J)<|zo J (dX J J)<|am au J ai J (ht J) (ht J)<|aY 4 J<|bg J<|aq<|aj ?_;cases so h;exact be J J ⟨aN au J J J,aK J,aL⟩

theorem US(p:Int)(y:Int){R:Int×Int}(h:nl p y=some R):aR aU 334 [tD ni p,tD ni y] (tT [tD ni R.1,tD ni R.2]):=by
 refine aR.of Tryz.func334 J J J fun w0 S0=>av<|zo J (bW)<|zo J (bW)<|aq<|av<|aE J<|zo J (Ci (ht J) hI)<|bg J<|aq<|av<|aE J<|zo J (sE (ht J) hI (by decide))<|bg J<|aq<|av<|aE J ?_;refine zo J (Ci (ht J) hI)<|bg J<|aq<|av<|aE J<|zo J (sE (ht J) hI (by decide))<|bg J<|aq<|av<|aE J<|aE J<|zo J (xV (ht J) (ht J))<|bg J<|aq<|av<|aE J<|aE J<|zo J (xV (ht J) (ht J)) ?_;refine aE J<|zo J (sE (ht J) hI (by decide))<|zo J (fV (ht J) (ht J))<|bg J<|aq<|av<|aE J<|zo J (Ci (ht J) hI)<|bg J<|aq<|av<|aE J<|zo J (sE (ht J) hI (by decide))<|bg J<|aq<|av<|aE J<|aE J ?_;refine aE J<|zo J (xV (ht J) (ht J))<|zo J (fV (ht J) (ht J))<|bg J<|aq<|av<|aE J<|aE J<|zo J (xV (ht J) (ht J))<|aE J<|zo J (fV (ht J) (ht J))<|aE J<|zo J (sE (ht J) hI (by decide))<|zo J (fV (ht J) (ht J))<|bg J<|aq<|av<|aE J<|aE J<|zo J (xV (ht J) (ht J)) ?_;refine bg J<|aq<|aj ?_;cases so h;exact cW J J J

theorem DP(n:Int){R:Int}(h:pF n=some R):aR aU 335 [bM n] (tD ni R):=by
 refine aR.of Tryz.func335 J J J fun w0 S0=>av<|zo J (bW)<|aq<|ah<|av<|aE J<|zo J (dJ (ht J) hI)<|aq<|ce h J (fun h=>?_) (fun h=>?_)
 ·refine av<|aE J<|zo J (mQ vh uW (ht J))<|zo J (Ir (ht J))<|bg J<|aq<|aj<|ae ?_;cases so h;exact aH J J
 ·refine df<|av<|aE J<|zo J (mQ vh uW (ht J))<|bg J<|aq<|aj ?_;cases so h;exact aH J J

theorem OL(u:Int)(below:Bool){R:Int×Bool}(h:m9 u below=some R):aR aU 336 [tD ni u,hJ below] (tT [bM R.1,hJ R.2]):=by
 refine aR.of Tryz.func336 J J J fun w0 S0=>av<|zo J (bW)<|zo J (jU)<|aq<|ah<|av<|aE J<|aq<|ce h J (fun h=>?_) (fun h=>?_)
 ·refine av<|aE J<|zo J (Ir (ht J))<|zo J (mQ uW vh (ht J))<|aE J<|zo J (jZ (ht J) hI)<|bg J<|bg J<|aq<|aj<|ae ?_;cases so h;exact cW J J J
 ·refine df<|av<|aE J<|zo J (mQ uW vh (ht J))<|aE J<|zo J (jZ (ht J) hI)<|bg J<|bg J<|aq<|aj ?_;cases so h;exact cW J J J

theorem UT(a1:Int)(b:Int){R:Int×Bool}(h:mF a1 b=some R):aR aU 333 [bM a1,bM b] (tT [bM R.1,hJ R.2]):=by
 refine aR.of Tryz.func333 J J J fun w0 S0=>av<|zo J (bW)<|zo J (jU)<|aq<|av<|aE J<|bo h fun r q_r h=>zo J (ap Ph (DP _ q_r) ⟨(ht J),aL⟩)<|aE J<|bo h fun r1 q_r1 h=>zo J (ap Ph (DP _ q_r1) ⟨(ht J),aL⟩)<|bo h fun r2 q_r2 h=>zo J (ap aaW (US _ _ q_r2) ⟨(ht J),(ht J),aL⟩)<|aE J<|zo J (dX J J)<|zo J (dX J J)<|bg J<|bg J<|aq ?_;refine av<|aE J<|aE J<|zo J (dJ (ht J) hI)<|aE J<|zo J (dJ (ht J) hI)<|zo J (Bc CX (ht J) (ht J))<|bo h fun r3 q_r3 h=>zo J (ap Xj (OL _ _ q_r3) ⟨(ht J),(ht J),aL⟩)<|aE J<|zo J (dX J J)<|zo J (dX J J)<|bg J<|bg J<|aq<|av<|aE J<|aE J<|aE J<|co J J (fun hg=>cX J)<|co J J (fun hg=>cd (bm J hg) hI) ?_;refine zo J (pH J J)<|bg J<|bg J<|aq<|aj ?_;cases so h;exact cW J J J

theorem Vh(a1:ac)(b:ac){R:ac×Int}(h:CB a1 b=some R):aR aU 269 [tD af a1,tD af b] (tT [tD af R.1,bM R.2]):=by
 refine aR.of Tryz.func269 J J J fun w0 S0=>av<|zo J (gi J)<|zo J (gi J)<|aP (r:=af) (x:=d3) au (fun _=>aJ _) J fun b1=>zo J (bW)<|aq<|av<|zo J (bh au J J)<|zo J (bh au J J)<|bo h fun r q_r h=>zo J (ap Pi (DQ _ _ _ q_r) ⟨(ht J),(ht J),(zJ aaX fun x y h=>UT _ _ h),aL⟩)<|zo J (dX J J)<|zo J (dX J J)<|am au J ai J (ht J) (ht J)<|aY 4 J<|bg J<|aq<|aj ?_;cases so h;exact be J J ⟨aN au J J J,aK J,aL⟩

theorem UR(a1:Int)(b:Int){R:Int×Bool}(h:mG a1 b=some R):aR aU 337 [bM a1,bM b] (tT [bM R.1,hJ R.2]):=by
 refine aR.of Tryz.func337 J J J fun w0 S0=>av<|zo J (bW)<|zo J (jU)<|aq<|ah<|av<|aE J<|zo J (hM J)<|aq<|ce h J (fun h=>?_) (fun h=>?_)
 ·refine av<|zo J (bW)<|zo J (jU)<|aq<|aj<|ae ?_;cases so h;exact cW J J J
 ·refine df<|av<|aE J<|bo h fun r q_r h=>zo J (ap Ph (DP _ q_r) ⟨(ht J),aL⟩)<|aE J<|bo h fun r1 q_r1 h=>zo J (ap Ph (DP _ q_r1) ⟨(ht J),aL⟩)<|bo h fun u q_u h=>zo J (RE (ht J) (ht J) (Ok q_u))<|aE J<|zo J (dJ (ht J) hI)<|aE J<|zo J (dJ (ht J) hI)<|zo J (Bc CX (ht J) (ht J))<|bo h fun r2 q_r2 h=>zo J (ap Xj (OL _ _ q_r2) ⟨(ht J),(ht J),aL⟩)<|zo J (dX J J)<|zo J (dX J J)<|bg J<|bg J<|aQ ?_;refine ax<|aj ?_;cases so h;exact cW J J J

theorem Vg(a1:ac)(b:ac){R:ac×Int}(h:CC a1 b=some R):aR aU 270 [tD af a1,tD af b] (tT [tD af R.1,bM R.2]):=by
 refine aR.of Tryz.func270 J J J fun w0 S0=>av<|zo J (gi J)<|zo J (gi J)<|aP (r:=af) (x:=d3) au (fun _=>aJ _) J fun b1=>zo J (bW)<|aq<|av<|zo J (bh au J J)<|zo J (bh au J J)<|bo h fun r q_r h=>zo J (ap Pi (DQ _ _ _ q_r) ⟨(ht J),(ht J),(zJ aaV fun x y h=>UR _ _ h),aL⟩)<|zo J (dX J J)<|zo J (dX J J)<|am au J ai J (ht J) (ht J)<|aY 4 J<|bg J<|aq<|aj ?_;cases so h;exact be J J ⟨aN au J J J,aK J,aL⟩

theorem UQ(c:Int){R:Bool}(h:zu c=some R):aR aU 338 [bM c] (hJ R):=by
 refine aR.of Tryz.func338 J J J fun w0 S0=>av<|zo J (jU)<|aq<|av<|aE J<|zo J (hM J)<|bg J<|aq<|aj ?_;cases so h;exact aH J J

theorem OS(a1:ac)(b:ac){R:ac×Int}(h:rO a1 b=some R):aR aU 271 [tD af a1,tD af b] (tT [tD af R.1,bM R.2]):=by
 refine aR.of Tryz.func271 J J J fun w0 S0=>av<|zo J (gi J)<|zo J (gi J)<|aP (r:=af) (x:=d3) au (fun _=>aJ _) J fun b1=>zo J (bW)<|aq<|av<|zo J (bh au J J)<|zo J (bh au J J)<|bo h fun r q_r h=>zo J (ap Xk (OM _ _ _ q_r) ⟨(ht J),(ht J),(zJ aaU fun x y h=>UQ _ h),aL⟩)<|zo J (dX J J)<|zo J (dX J J)<|am au J ai J (ht J) (ht J)<|aY 4 J<|bg J<|aq<|aj ?_;cases so h;exact be J J ⟨aN au J J J,aK J,aL⟩

theorem UP(do1:(ac→ac→Option (ac×Int)))(a1:ac)(b:ac){R:ac×Int}(h:ub do1 a1 b=some R):aR aU 339 [tD af a1,tD af b,bN (rT ((ei aU qH tA (fun(x:ac×ac)=>do1 x.1 x.2)))) ()] (tT [tD af R.1,bM R.2]):=by
 refine aR.of Tryz.func339 J J J fun w0 S0=>av<|zo J (gi J)<|zo J (gi J)<|aP (r:=af) (x:=d3) au (fun _=>aJ _) J fun b1=>zo J (bW)<|aq<|av<|zo J (vD WJ (ht J))<|zo J (bh au J J)<|zo J (bh au J J)<|bo h fun r q_r h=>zo J (io (args:=qH) (res:=Dr) (f:=(fun(x:ac×ac)=>do1 x.1 x.2)) (x:=((a1,b):ac×ac)) (ht J) q_r ⟨(ht J),(ht J),aL⟩)<|aE J<|zo J (dX J J)<|zo J (dX J J)<|aP (r:=af) (x:=d3) au (fun _=>aJ _) J fun b2=>am au J ai J (ht J) (ht J)<|aY 7 J<|bg J<|aQ ?_;refine ax<|ah<|av<|aE rfl<|zo rfl (sx rfl)<|aq<|ce h rfl (fun h=>?_) (fun h=>?_)
 ·refine av<|zo J (bh au J J)<|aE J<|am au J ai J (ht J) (ht J)<|bg J<|aq<|aj<|ae<|aF 5 J ?_;cases so h;exact be J J ⟨aN au J J J,aK J,aL⟩
 ·refine df<|av<|zo J (bh au J J)<|bo h fun r1 q_r1 h=>zo J (ap Xu (OV _ q_r1) ⟨(ht J),aL⟩)<|zo J (dX J J)<|zo J (dX J J)<|am au J ai J (ht J) (ht J)<|bg J<|aq<|aj<|aF 5 J ?_;cases so h;exact be J J ⟨aN au J J J,aK J,aL⟩

theorem IX(do1:(ac→ac→Option (ac×Int))){R:(ac→ac→Option (ac×Int))}(h:Bv do1=some R):aR aU 272 [(ei aU qH tA (fun(x:ac×ac)=>do1 x.1 x.2))] ((ei aU qH tA (fun(x:ac×ac)=>R x.1 x.2))):=by
 refine aR.of Tryz.func272 J J J fun w0 S0=>av<|zo J (DL (ht J))<|zo J (aT hV)<|aq<|av<|zo J ((show bZ _ _ _ _ ((ei aU qH tA (fun(x:ac×ac)=>(ub do1) x.1 x.2)))from i8 (cts:=[bN (rT ((ei aU qH tA (fun(x:ac×ac)=>do1 x.1 x.2)))) ()]) (caps:=[.tmp 1]) aaT ⟨(ht J),aL⟩ (fun x y h=>UP _ _ _ h)))<|bg J<|aq<|aj ?_;cases so h;exact aH J J

theorem UO(l:(List Int)){R:Int}(h:C0 l=some R):aR aU 340 [mH l] (bM R):=by
 refine aR.of Tryz.func340 J J J fun w0 S0=>av<|zo J (bW)<|aq<|ah<|bo h fun e q_e h=>bo h fun e1 q_e1 h=>?_
 refine cD (ts:=[_,_,_,_,_,_,_,_]) mixed J J
  ⟨dB 0 J J J (cX J),
  ⟨bT 3 0 J J J (bF iv cg J (ht J) hI q_e),
  ⟨bT 4 1 J J J (bh cg J J),
  ⟨dB 0 J J J (cX J),
  ⟨bT 6 3 J J J (bF iv cg J (ht J) hI q_e1),
  ⟨bT 7 4 J J J (bh cg J J),
  ⟨cK 5 2 8 5 J J J J (Oe (ht J) (ht J)),
  ⟨bT 9 6 J J J (rN J),
  aL⟩⟩⟩⟩⟩⟩⟩⟩ ?_
 refine ax<|aj ?_;cases so h;exact aH J J

theorem Vf(a1:ac)(b:ac){R:ac×Int}(h:s8 a1 b=some R):aR aU 273 [tD af a1,tD af b] (tT [tD af R.1,bM R.2]):=by
 refine aR.of Tryz.func273 J J J fun w0 S0=>av<|zo J (gi J)<|zo J (gi J)<|aP (r:=af) (x:=d3) au (fun _=>aJ _) J fun b1=>zo J (bW)<|aq<|av<|zo J (bh au J J)<|zo J (bh au J J)<|zo J (bf (r:=af) (ys:=[a1,b]) (xs:=[.tmp 6,.tmp 7]) i7 au J J J J J ⟨(ht J),(ht J),aL⟩)<|bo h fun r q_r h=>zo J (ap ST (IT _ _ q_r) ⟨(zJ aaS fun x y h=>UO _ h),(ht J),aL⟩)<|zo J (dX J J)<|zo J (dX J J)<|am au J ai J (ht J) (ht J)<|aY 4 J<|bg J<|aq<|aj ?_;cases so h;exact be J J ⟨aN au J J J,aK J,aL⟩

theorem UN(l:(List Int)){R:Int}(h:Eg l=some R):aR aU 341 [mH l] (bM R):=by
 refine aR.of Tryz.func341 J J J fun w0 S0=>av<|zo J (bW)<|aq<|ah<|bo h fun e q_e h=>bo h fun e1 q_e1 h=>?_
 refine cD (ts:=[_,_,_,_,_,_,_,_]) mixed J J
  ⟨dB 0 J J J (cX J),
  ⟨bT 3 0 J J J (bF iv cg J (ht J) hI q_e),
  ⟨bT 4 1 J J J (bh cg J J),
  ⟨dB 0 J J J (cX J),
  ⟨bT 6 3 J J J (bF iv cg J (ht J) hI q_e1),
  ⟨bT 7 4 J J J (bh cg J J),
  ⟨cK 5 2 8 5 J J J J (Og (ht J) (ht J)),
  ⟨bT 9 6 J J J (rN J),
  aL⟩⟩⟩⟩⟩⟩⟩⟩ ?_
 refine ax<|aj ?_;cases so h;exact aH J J

theorem Ve(a1:ac)(b:ac){R:ac×Int}(h:vo a1 b=some R):aR aU 274 [tD af a1,tD af b] (tT [tD af R.1,bM R.2]):=by
 refine aR.of Tryz.func274 J J J fun w0 S0=>av<|zo J (gi J)<|zo J (gi J)<|aP (r:=af) (x:=d3) au (fun _=>aJ _) J fun b1=>zo J (bW)<|aq<|av<|zo J (bh au J J)<|zo J (bh au J J)<|zo J (bf (r:=af) (ys:=[a1,b]) (xs:=[.tmp 6,.tmp 7]) i7 au J J J J J ⟨(ht J),(ht J),aL⟩)<|bo h fun r q_r h=>zo J (ap ST (IT _ _ q_r) ⟨(zJ aaR fun x y h=>UN _ h),(ht J),aL⟩)<|zo J (dX J J)<|zo J (dX J J)<|am au J ai J (ht J) (ht J)<|aY 4 J<|bg J<|aq<|aj ?_;cases so h;exact be J J ⟨aN au J J J,aK J,aL⟩

theorem VG{R:(List (Int×(ac→ac→Option (ac×Int))))}(h:yU=some R):aR aU 183 [] (N3 (fun y:(ac→ac→Option (ac×Int))=>zg aU qH tA (fun(x:ac×ac)=>y x.1 x.2)) nO R):=by
 refine aR.of Tryz.func183 J J J fun w0 S0=>av<|zo J (aT (show aO _ _ (.const (.map none)) (tV (.map none))from fun _ _ _=>J))<|aq<|av<|bo h fun r q_r h=>zo J (ap abq (Vk _ q_r) ⟨(zJ SY fun x y h=>IY _ _ h),aL⟩)<|bg J<|aq<|av<|Au (xg (fun y:(ac→ac→Option (ac×Int))=>zg aU qH tA (fun(x:ac×ac)=>y x.1 x.2))) nO J fun b=>bo h fun r1 q_r1 h=>zo J (ap Xv (OW _ q_r1) ⟨(zJ abp fun x y h=>Vj _ h),aL⟩)<|fc (γ:=(fun y:(ac→ac→Option (ac×Int))=>zg aU qH tA (fun(x:ac×ac)=>y x.1 x.2))) (y:=r1) xp (eK lj) (ht J) (oc hI) (oR (ht J)) fun os=>bo h fun r2 q_r2 h=>zo J (ap Xv (OW _ q_r2) ⟨(zJ Xu fun x y h=>OV _ h),aL⟩)<|fc (γ:=(fun y:(ac→ac→Option (ac×Int))=>zg aU qH tA (fun(x:ac×ac)=>y x.1 x.2))) (y:=r2) xp (eK lj) (ht J) (oc hI) (oR (ht J)) fun os1=>bo h fun r3 q_r3 h=>zo J (ap Xt (OU _ q_r3) ⟨hB,aL⟩) ?_;refine fc (γ:=(fun y:(ac→ac→Option (ac×Int))=>zg aU qH tA (fun(x:ac×ac)=>y x.1 x.2))) (y:=r3) xp (eK lj) (ht J) (oc hI) (oR (ht J)) fun os2=>bo h fun r4 q_r4 h=>zo J (ap Xt (OU _ q_r4) ⟨hB,aL⟩)<|fc (γ:=(fun y:(ac→ac→Option (ac×Int))=>zg aU qH tA (fun(x:ac×ac)=>y x.1 x.2))) (y:=r4) xp (eK lj) (ht J) (oc hI) (oR (ht J)) fun os3=>fc (γ:=(fun y:(ac→ac→Option (ac×Int))=>zg aU qH tA (fun(x:ac×ac)=>y x.1 x.2))) (y:=CD) xp (eK lj) (ht J) (oc hI) (oR (zJ abo fun x y h=>Vi _ _ h)) fun os4=>fc (γ:=(fun y:(ac→ac→Option (ac×Int))=>zg aU qH tA (fun(x:ac×ac)=>y x.1 x.2))) (y:=vR) xp (eK lj) (ht J) (oc hI) (oR (zJ Xs fun x y h=>OT _ _ h)) fun os5=>fc (γ:=(fun y:(ac→ac→Option (ac×Int))=>zg aU qH tA (fun(x:ac×ac)=>y x.1 x.2))) (y:=CB) xp (eK lj) (ht J) (oc hI) (oR (zJ abn fun x y h=>Vh _ _ h)) fun os6=>fc (γ:=(fun y:(ac→ac→Option (ac×Int))=>zg aU qH tA (fun(x:ac×ac)=>y x.1 x.2))) (y:=CC) xp (eK lj) (ht J) (oc hI) (oR (zJ abl fun x y h=>Vg _ _ h)) fun os7=>fc (γ:=(fun y:(ac→ac→Option (ac×Int))=>zg aU qH tA (fun(x:ac×ac)=>y x.1 x.2))) (y:=rO) xp (eK lj) (ht J) (oc hI) (oR (zJ Xr fun x y h=>OS _ _ h)) fun os8=>bo h fun r5 q_r5 h=>zo J (ap SX (IX _ q_r5) ⟨(zJ Xr fun x y h=>OS _ _ h),aL⟩)<|fc (γ:=(fun y:(ac→ac→Option (ac×Int))=>zg aU qH tA (fun(x:ac×ac)=>y x.1 x.2))) (y:=r5) xp (eK lj) (ht J) (oc hI) (oR (ht J)) fun os9=>fc (γ:=(fun y:(ac→ac→Option (ac×Int))=>zg aU qH tA (fun(x:ac×ac)=>y x.1 x.2))) (y:=nT) xp (eK lj) (ht J) (oc hI) (oR (zJ SY fun x y h=>IY _ _ h)) fun os10=>aE J<|fc (γ:=(fun y:(ac→ac→Option (ac×Int))=>zg aU qH tA (fun(x:ac×ac)=>y x.1 x.2))) (y:=r) xp (eK lj) (ht J) (oc hI) (oR (ht J)) fun os11=>aE J<|bo h fun r6 q_r6 h=>zo J (ap SX (IX _ q_r6) ⟨(ht J),aL⟩)<|fc (γ:=(fun y:(ac→ac→Option (ac×Int))=>zg aU qH tA (fun(x:ac×ac)=>y x.1 x.2))) (y:=r6) xp (eK lj) (ht J) (oc hI) (oR (ht J)) fun os12=>bo h fun r7 q_r7 h=>zo J (ap SX (IX _ q_r7) ⟨(zJ SY fun x y h=>IY _ _ h),aL⟩)<|fc (γ:=(fun y:(ac→ac→Option (ac×Int))=>zg aU qH tA (fun(x:ac×ac)=>y x.1 x.2))) (y:=r7) xp (eK lj) (ht J) (oc hI) (oR (ht J)) fun os13=>fc (γ:=(fun y:(ac→ac→Option (ac×Int))=>zg aU qH tA (fun(x:ac×ac)=>y x.1 x.2))) (y:=s8) xp (eK lj) (ht J) (oc hI) (oR (zJ abk fun x y h=>Vf _ _ h)) fun os14=>fc (γ:=(fun y:(ac→ac→Option (ac×Int))=>zg aU qH tA (fun(x:ac×ac)=>y x.1 x.2))) (y:=vo) xp (eK lj) (ht J) (oc hI) (oR (zJ abj fun x y h=>Ve _ _ h)) fun os15=>?_;refine aE J<|bg J<|aq<|aj<|LU 0 J ?_;cases so h;exact aH J J

theorem YX{l:Option Nat}{c:Nat}{xs s:List ac}{lo:Int}{R:List ac}(hs:dP xs lo (xs.length:Int)=some s)(h:gb s=some R):dl aU 276 [tV (oQ 4 l c lo.toNat s.length)] [fL af 46 l c xs] (fun i:OI=>sw (i.h 0).1 (i.h 0).2 R) (fun i=>[fL af 46 (i.h 0).1 (i.h 0).2 R,fL af 46 l c xs]):=by
 refine dl.of Tryz.func276 J J J fun w0 S0=>av<|zo J (aT tg)<|aq<|ah<|av<|aE J<|Ht (r:=af) i7 (.head _) hs (ht J) J fun isnil hisnil=>aq<|pg (ht J) (fun hc=>?_) (fun hc=>?_)
 ·have hx:=hisnil hc
  have h:some F2=some R:=by simpa [gb,app,hx] using h
  refine av<|ca false af 46<|zo J (aT tg)<|aq<|aj<|ae ?_;cases so h;exact nv J (oi none 0) J J (fun _ _ h=>h)
 ·refine df<|av<|kG (r:=af) (ys:=F2) (xs:=[]) i7 au J J J J J trivial J fun l1 c1=>aE J<|bo h fun x q_x h=>FI au J J J J i7 J J (ht J) (.tail _ (.head _)) hs (ht J) q_x fun l2 c2=>bg J<|aq<|aj ?_;cases so h;exact nv J (oi l2 c2) J J (fun _ _ h=>h)

theorem Su(b:Nat)(l:Option Nat)(c:Nat)(stack:(List ac))(k:Int){R:(List ac)×(List ac)}(h:kZ stack k=some R):dl aU 275 [bM k,tV (aS b 0)] [bx rV 42 b (bc l c stack.length),fL af 46 l c stack] (fun i:OI=>cq (af) R.1) (fun i=>[bx rV 42 b (bc (i.h 0).1 (i.h 0).2 R.2.length),fL af 46 (i.h 0).1 (i.h 0).2 R.2]):=by
 refine dl.of Tryz.func275 J J J fun w0 S0=>av<|zo J (aT (show aO _ _ _ (cq (af) ([]))from kJ))<|aq<|av<|zo J (im HX (.head _) (ht J))<|zo J (im HX (.head _) (ht J))<|zo J (jB i7 (.tail _ (.head _)) (ht J))<|aE J<|zo J (ft (ht J) (ht J))<|bo h fun y q_y h=>zo J (n9 i7 au J (.tail _ (.head _)) (ht J) (ht J) q_y)<|nc (.tail _ (.head _)) q_y fun hv=>bq<|bo h fun r q_r h=>BQ [fL af 46 l c stack] _ J abi (YX q_y q_r) ⟨(ht J),aL⟩ J fun i=>?_;refine(show RG _ _ _ _ [fL af 46 (i.h 0).1 (i.h 0).2 r,fL af 46 l c stack,bx rV 42 b (bc l c stack.length)] _ from ?_);refine bg J<|aq<|av<|zo J (im HX (.tail _ (.tail _ (.head _))) (ht J))<|zo J (im HX (.tail _ (.tail _ (.head _))) (ht J))<|zo J (jB i7 (.tail _ (.head _)) (ht J))<|aE J<|zo J (ft (ht J) (ht J))<|bo h fun y1 q_y1 h=>zo J (lx i7 au J (.tail _ (.head _)) (ht J) (ht J) q_y1)<|bq<|wT q_y1<|gj<|am HX J ai J (ht J) (R1 (ht J))<|aq<|av<|aE J<|bg J<|aq ?_;refine aj<|aM<|jS<|cP 3 J<|cP 11 J<|cP 4 J<|cP 18 J<|jT 3 J<|aZ<|bI<|bI ?_;cases so h;exact nv J (oi l c) J J (fun _ _ h=>h)

end Go.Proofs.YtfhhakidodmdfaaGreatDoor

