/- di of this claim: P10. -/
import Derived.Test.YtfhhakidodmdfaaGreatDoorJcT
import Derived.Test.YtfhhakidodmdfaaGreatDoorJcP9
set_option linter.all false
namespace Go.Proofs.YtfhhakidodmdfaaGreatDoor
open Go
set_option maxRecDepth 100000

theorem Lf(l:(List (List ac))){R:(List (List ac))}(h:tH l=some R):gA aU 174 [cq (dg) l] false dg 43 R:=by
 refine gA.of Tryz.func174 J J J fun w0 S0=>av<|ca false dg 43<|zo J (aT tg)<|aq<|av<|ca false dg 43<|zo J (aT tg)<|aq<|ah<|av<|aE J<|zo J (jw jN J)<|zo J (bJ hI)<|aq<|aC<|bp (k:=6) J fun hN=>bQ ?_;refine iq<|rL ?_;refine ba (kX (Z:=fun ls i out l1 c=>(l.drop i=ls)∧nC ls out=some R) (Of:=fun _ i out l1 c=>[fL dg 43 l1 c out]) (Gf:=fun _ i out l1 c=>[(3,sw l1 c out),(6,cq (dg) l),(7,ky l),(8,bM (i:Int))]) (fun i out l1 c h=>?_) (fun e tl ih i out l1 c h=>?_) l 0 HP none 0 ⟨J,h⟩) (bD J)
 ·obtain⟨hx,h⟩:=h
  refine aG<|av<|zo J (fY J J)<|aq<|ah<|bL (ht J) (dO hx)<|bG ?_;refine ak (ak (aV ?_));refine ax<|av<|aE rfl<|bg rfl<|aq<|aj ?_;cases so h;exact gK J J
 ·obtain⟨hx,h⟩:=h
  refine aG<|av<|zo J (fY J J)<|aq<|ah<|bK (ht J) (dL hx)<|df<|ah<|aC<|av<|zo J (ne jN eg J J J (dA hx))<|zo J (bh eg J J)<|bg J<|aq<|aA<|aE J<|aE J<|bo h fun r q_r h=>jh Tc (Fk _ q_r) ⟨(ht J),aL⟩ J fun l2 c1=>?_;refine kO<|jM 14 J<|zo J (bf (r:=dg) (ys:=[r]) (xs:=[.tmp 14]) jN eg J J J J J ⟨(lJ (ht J)),aL⟩)<|bq<|bo h fun out1 q_out1 h=>cV eg J J J J jN J J (ht J) (ht J) q_out1 fun l3 c2=>bg J<|aQ<|aw<|ax<|aA<|zo rfl (nf (dd hx hN) rfl)<|aE rfl<|aQ<|bI<|aZ ?_;exact bn (ba (ih (i+1) out1 l3 c2 ⟨dc hx,h⟩) (bD J))
theorem SB(r:(List ac))(columns:(List Int)){R:(List ac)}(h:nW r columns=some R):gA aU 177 [cq (af) r,mH columns] false af 46 R:=by
 refine gA.of Tryz.func177 J J J fun w0 S0=>av<|ca false af 46<|zo J (aT tg)<|aq<|av<|ca false af 46<|zo J (aT tg)<|aq<|ah<|av<|aE J<|zo J (jw iv J)<|zo J (bJ hI)<|aq<|aC<|bp (k:=8) J fun hN=>bQ ?_;refine iq<|rL ?_;refine ba (kX (Z:=fun ls i out l c=>(columns.drop i=ls)∧mD r ls out=some R) (Of:=fun _ i out l c=>[fL af 46 l c out]) (Gf:=fun _ i out l c=>[(0,cq (af) r),(5,sw l c out),(8,mH columns),(9,ky columns),(10,bM (i:Int))]) (fun i out l c h=>?_) (fun e tl ih i out l c h=>?_) columns 0 F2 none 0 ⟨J,h⟩) (bD J)
 ·obtain⟨hx,h⟩:=h
  refine aG<|av<|zo J (fY J J)<|aq<|ah<|bL (ht J) (dO hx)<|bG ?_;refine ak (ak (aV ?_));refine ax<|av<|aE rfl<|bg rfl<|aq<|aj ?_;cases so h;exact gK J J
 ·obtain⟨hx,h⟩:=h
  refine aG<|av<|zo J (fY J J)<|aq<|ah<|bK (ht J) (dL hx)<|df<|ah<|aC<|av<|zo J (ne iv cg J J J (dA hx))<|zo J (bh cg J J)<|bg J<|aq<|aA<|aE J<|aE J<|aE J<|bo h fun e1 q_e1 h=>?_;refine zo J (ne iw au J J J q_e1)<|zo J (bh au J J)<|zo J (bf (r:=af) (ys:=[e1]) (xs:=[.tmp 18]) iw au J J J J J ⟨(ht J),aL⟩)<|bo h fun out1 q_out1 h=>cV au J J J J iw J J (ht J) (ht J) q_out1 fun l1 c1=>bg J<|aQ<|aw<|ax<|aA<|zo rfl (nf (dd hx hN) rfl)<|aE rfl<|aQ ?_;exact bn (ba (ih (i+1) out1 l1 c1 ⟨dc hx,h⟩) (bD J))
theorem Br(r:(List ac))(columns:(List Int)){R:(List ac)}(h:nW r columns=some R):aR aU 177 [cq (af) r,mH columns] (cq (af) R):=(SB _ _ h).spec

theorem VJ(columns:(List Int))(a1:(List ac))(b:(List ac)){R:Int}(h:mN columns a1 b=some R):aR aU 175 [cq (af) a1,cq (af) b,bN nQ columns] (bM R):=by
 refine aR.of Tryz.func175 J J J fun w0 S0=>av<|zo J (bW)<|aq<|ah<|bo h fun r q_r h=>bo h fun r1 q_r1 h=>bo h fun r2 q_r2 h=>bo h fun r3 q_r3 h=>bo h fun r4 q_r4 h=>?_
 refine cD (ts:=[_,_,_,_,_,_,_,_,_,_,_,_,_]) mixed J J
  ⟨dB 0 J J J (cX J),
  ⟨dB 2 J J J (bh eQ J J),
  ⟨cK 6 0 7 1 J J J J (ap Lt (Br _ _ q_r) ⟨(ht J),(ht J),aL⟩),
  ⟨dB 1 J J J (cX J),
  ⟨dB 2 J J J (bh eQ J J),
  ⟨cK 9 3 10 4 J J J J (ap Lt (Br _ _ q_r1) ⟨(ht J),(ht J),aL⟩),
  ⟨cK 8 2 11 5 J J J J (ap Wk (IP _ _ q_r2) ⟨(ht J),(ht J),aL⟩),
  ⟨dB 0 J J J (cX J),
  ⟨dB 1 J J J (cX J),
  ⟨cK 13 7 14 8 J J J J (ap Wk (IP _ _ q_r3) ⟨(ht J),(ht J),aL⟩),
  ⟨cK 12 6 15 9 J J J J (bf (r:=cj) (ys:=[r2,r3]) (xs:=[.tmp 12,.tmp 15]) iv cg J J J J J ⟨(ht J),(ht J),aL⟩),
  ⟨bT 16 10 J J J (ap S6 (I2 _ q_r4) ⟨(ht J),aL⟩),
  ⟨bT 17 11 J J J (rN J),
  aL⟩⟩⟩⟩⟩⟩⟩⟩⟩⟩⟩⟩⟩ ?_
 refine ax<|aj ?_;cases so h;exact aH J J

theorem VR(s1:(List ac))(s2:(List ac)){R:Bool}(h:jm s1 s2=some R):aR aU 157 [cq (af) s1,cq (af) s2] (hJ R):=by
 refine aR.of Tryz.func157 J J J fun w0 S0=>av<|zo J (jU)<|aq<|ah<|av<|aE J<|zo J (jw iw J)<|aE J<|zo J (jw iw J)<|zo J (c9 (ht J) (ht J))<|aq<|ce h J (fun h=>?_) (fun h=>?_)
 ·refine av<|zo J (jU)<|aq<|aj<|ae ?_;cases so h;exact aH J J
 ·refine df<|ah<|av<|aE J<|zo J (jw iw J)<|zo J (bJ hI)<|aq<|aC<|bp (k:=11) J fun hN=>bQ ?_;refine ba (fK (Z:=fun ls i=>(s1.drop i=ls)∧ep s2 ls i=some R) (Of:=fun _ i=>[]) (Gf:=fun _ i=>[(0,cq (af) s1),(1,cq (af) s2),(12,ky s1),(13,bM (i:Int))]) (fun i h=>?_) (fun e tl ih i h=>?_) s1 0 ⟨J,h⟩) (bD J)
  ·obtain⟨hx,h⟩:=h
   refine aG<|av<|zo J (fY J J)<|aq<|ah<|bL (ht J) (dO hx)<|bG ?_;refine ak (ak (aV ?_));refine ax<|av<|zo rfl (jU)<|aq<|aj ?_;cases so h;exact aH J J
  ·obtain⟨hx,h⟩:=h
   refine aG<|av<|zo J (fY J J)<|aq<|ah<|bK (ht J) (dL hx)<|df<|ah<|aC<|av<|aE J<|bg J<|aq<|ah<|bo h fun e1 q_e1 h=>?_
   refine cD (ts:=[_,_,_,_,_,_,_,_,_]) mixed J J
    ⟨dB 0 J J J (cX J),
    ⟨dB 5 J J J (cX J),
    ⟨cK 16 0 17 1 J J J J (ne iw au J J J (dA hx)),
    ⟨bT 18 2 J J J (bh au J J),
    ⟨dB 1 J J J (cX J),
    ⟨dB 5 J J J (cX J),
    ⟨cK 20 4 21 5 J J J J (ne iw au J J J q_e1),
    ⟨bT 22 6 J J J (bh au J J),
    ⟨cK 19 3 23 7 J J J J (Iq Cr (ht J) (ht J)),
    aL⟩⟩⟩⟩⟩⟩⟩⟩⟩ ?_
   refine ax<|ce h rfl (fun h=>?_) (fun h=>?_)
   ·refine av<|zo J (jU)<|aq<|aj ?_;refine aB (ae (ae (aB (ae ?_))));cases so h;exact aH J J
   ·refine bA<|aw<|ax<|aA<|zo rfl (nf (dd hx hN) rfl)<|aE rfl<|aQ ?_;exact bn (ba (ih (i+1) ⟨dc hx,h⟩) (bD J))

theorem Si(a1:(List ac))(b:(List ac)){R:Bool}(h:pM a1 b=some R):aR aU 93 [cq (af) a1,cq (af) b] (hJ R):=by
 refine aR.of Tryz.func93 J J J fun w0 S0=>av<|zo J (jU)<|aq<|av<|aE J<|aE J<|bo h fun r q_r h=>zo J (ap acd (VR _ _ q_r) ⟨(ht J),(ht J),aL⟩)<|bg J<|aq<|aj ?_;cases so h;exact aH J J

theorem VI(columns:(List Int))(a1:(List ac))(b:(List ac)){R:Bool}(h:gE columns a1 b=some R):aR aU 178 [cq (af) a1,cq (af) b,bN nQ columns] (hJ R):=by
 refine aR.of Tryz.func178 J J J fun w0 S0=>av<|zo J (jU)<|aq<|ah<|bo h fun r q_r h=>bo h fun r1 q_r1 h=>bo h fun r2 q_r2 h=>?_
 refine cD (ts:=[_,_,_,_,_,_,_,_]) mixed J J
  ⟨dB 0 J J J (cX J),
  ⟨dB 2 J J J (bh eQ J J),
  ⟨cK 6 0 7 1 J J J J (ap Lt (Br _ _ q_r) ⟨(ht J),(ht J),aL⟩),
  ⟨dB 1 J J J (cX J),
  ⟨dB 2 J J J (bh eQ J J),
  ⟨cK 9 3 10 4 J J J J (ap Lt (Br _ _ q_r1) ⟨(ht J),(ht J),aL⟩),
  ⟨cK 8 2 11 5 J J J J (ap aaC (Si _ _ q_r2) ⟨(ht J),(ht J),aL⟩),
  ⟨bT 12 6 J J J (rN J),
  aL⟩⟩⟩⟩⟩⟩⟩⟩ ?_
 refine ax<|aj ?_;cases so h;exact aH J J

theorem Vl(l:(List (List ac)))(alike:((List ac)→(List ac)→Option Bool))(b:Nat):AA aU 260 (fun(x:(List (List ac)))=>[cq (dg) x]) (fun _=>wo l alike) [bx ee 32 b l] [tV (aS b 0),bN (rT ((ei aU F1 mI (fun(x:(List ac)×(List ac))=>alike x.1 x.2)))) ()]:=by
 refine AA.of Tryz.func260 J J J fun Sg yld s R h I yv hy e he w0 S0 B hB=>?_
 replace h:wo l alike yld s=some R:=h
 refine aC<|bQ<|iq ?_;refine ba (PC (Z:=fun n e1 s1 x=>I s1 e1∧kC alike yld n s1 x=some R) (Of:=fun e1 s1 x=>[bx ee 32 b x,e1]) (Gf:=fun e1 s1 x=>[(0,tV yv),(1,tV (aS b 0)),(2,bN (rT ((ei aU F1 mI (fun(x:(List ac)×(List ac))=>alike x.1 x.2)))) ())]) (fun e1 s1 x h=>nn h.2) (fun n ih e1 s1 x h=>?_) ir e s l ⟨he,h⟩) (bD J);refine aG ?_
 obtain⟨he1,h⟩:=h
 refine ah<|av<|zo J (bE iy J J bw (.head _) (ht J))<|zo J (jw jN J)<|zo J (iz (ht J) hI)<|aq<|ce h J (fun h=>?_) (fun h=>?_)
 ·refine df<|aC<|av<|zo J (bW)<|aq<|ah<|aC<|bQ ?_;refine ba (D4 (Z:=fun n2 n1=>ny alike yld (kC alike yld n) s1 x n2 n1=some R) (Of:=fun n1=>[bx ee 32 b x,e1]) (Gf:=fun n1=>[(0,tV yv),(1,tV (aS b 0)),(2,bN (rT ((ei aU F1 mI (fun(x:(List ac)×(List ac))=>alike x.1 x.2)))) ()),(4,bM n1)]) (fun n1 h=>nn h) (fun n2 ih1 n1 h=>?_) ir (1:Int) h) (bD J);refine aG<|ah<|ah<|bo h fun t q_t h=>?_
  obtain⟨e2,h1t,h0t⟩:=og q_t
  have q_e2g:=fun hb=>(h1t hb).1
  obtain⟨e3,h1t⟩:=WR (fun hb=>(h1t hb).2)
  have q_e3g:=fun hb=>(h1t hb).1
  obtain⟨r,h1t⟩:=WR (fun hb=>(h1t hb).2)
  have q_rg:=fun hb=>(h1t hb).1
  refine cD (ts:=[_,_,_,_,_,_,_,_,_,_,_,_,_,_,_]) mixed J J
   ⟨dB 4 J J J (cX J),
   ⟨dB 1 J J J (bE iy J J bw (.head _) (ht J)),
   ⟨bT 9 1 J J J (jw jN J),
   ⟨cK 8 0 10 2 J J J J (fY J J),
   ⟨bT 11 3 J J J (cX J),
   ⟨qR 2 12 4 J J J J (dC J J J J (fun hg=>vD ZO (ht J))),
   ⟨qR 1 12 4 J J J J (dC J J J J (fun hg=>bE iy J J bw (.head _) (ht J))),
   ⟨kj 14 6 12 4 J J J J (dC J J J J (fun hg=>bF jN eg J (bm J hg) hI (q_e2g hg))),
   ⟨kj 15 7 12 4 J J J J (dC J J J J (fun hg=>bj eg J J (bm J hg))),
   ⟨qR 1 12 4 J J J J (dC J J J J (fun hg=>bE iy J J bw (.head _) (ht J))),
   ⟨qR 4 12 4 J J J J (dC J J J J (fun hg=>cX J)),
   ⟨uw 17 9 18 10 12 4 J J J J J (dC J J J J (fun hg=>bF jN eg J (bm J hg) (bm J hg) (q_e3g hg))),
   ⟨kj 19 11 12 4 J J J J (dC J J J J (fun hg=>bj eg J J (bm J hg))),
   ⟨⟨[⟨13,_,some 5⟩,⟨16,_,some 8⟩,⟨20,_,some 12⟩,⟨12,_,some 4⟩],_,J,⟨J,J,J,J,aL⟩,J,J,dC J J J J (fun hg=>io (args:=XT) (res:=HQ) (f:=(fun(x:(List ac)×(List ac))=>alike x.1 x.2)) (x:=((e2,e3):(List ac)×(List ac))) (bm J hg) (q_rg hg) ⟨(bm J hg),(bm J hg),aL⟩)⟩,
   ⟨cK 12 4 21 13 J J J J (cH (ht J) (fun hb=>(bm J hb)) (fun hb=>(h1t hb).2) h0t),
   aL⟩⟩⟩⟩⟩⟩⟩⟩⟩⟩⟩⟩⟩⟩⟩ ?_
  refine ax<|ce h rfl (fun h=>?_) (fun h=>?_)
  ·refine df<|aC<|aA<|aE J<|zo J (fV (ht J) hI)<|bg J<|aQ<|aw ?_;exact bn (ba (ih1 (IntKind.i64.wrap (n1+(1:Int))) h) (bD J))
  ·refine bG ?_;refine ak (ak (aV ?_));refine ax<|ah<|av<|aE rfl<|zo rfl (bE iy rfl rfl bw (.head _) (ht rfl))<|aE rfl<|bo h fun y q_y h=>zo J (MS jN eg J (ht J) (ht J) q_y)<|bq<|bo h fun r1 q_r1 h=>FF hy he1 q_r1 (ht J) ⟨(ht J),aL⟩ J fun e4 he2=>zo J (cx (ht J))<|aq<|ce h J (fun h=>?_) (fun h=>?_)
   ·refine aj ?_;refine ae (aB (ae (aB ?_)));refine bI<|bI ?_;cases so h;exact Jl J he2 hB ⟨fun _ h=>h,aL⟩
   ·refine df<|aA<|zo J (bE iy J J bw (.tail _ (.head _)) (ht J))<|aE J<|bo h fun y1 q_y1 h=>zo J (MR jN eg J (ht J) (ht J) q_y1)<|bq<|am iy J ai J (ht J) (ht J)<|aQ<|aw ?_;exact bn (ba (ih e4 r1.2 y1 ⟨he2,h⟩) (bD J))
 ·refine bG ?_;refine ak (ak (aV ?_));refine bI ?_;cases so h;exact LX J he1 hB ⟨fun _ h=>h,aL⟩

theorem SA(l:(List (List ac)))(alike:((List ac)→(List ac)→Option Bool)){R:It (List (List ac))}(h:EG l alike=some R):As aU 179 [cq (dg) l,(ei aU F1 mI (fun(x:(List ac)×(List ac))=>alike x.1 x.2))] (fun(x:(List (List ac)))=>[cq (dg) x]) R:=by
 refine As.of Tryz.func179 J J J fun w0 S0=>av<|s6 (ht J) J fun b=>zo J (DL (ht J))<|zo J (aT hV)<|aq<|av<|Dl (O1:=[bx ee 32 b l]) (cts:=[tV (aS b 0),bN (rT ((ei aU F1 mI (fun(x:(List ac)×(List ac))=>alike x.1 x.2)))) ()]) (caps:=[.tmp 2,.tmp 3]) J abr (Vl l alike b) ⟨(ht J),(ht J),aL⟩ J fun v fp=>bg J<|aq<|aj ?_;cases so h;exact LV J J

theorem Sz(s:(List (List ac))){R:(List (List ac))}(h:fD s=some R):gA aU 180 [cq (dg) s] false dg 43 R:=by
 refine gA.of Tryz.func180 J J J fun w0 S0=>av<|ca false dg 43<|zo J (aT tg)<|aq<|ah<|av<|aE J<|uf jN (ht J) J fun isnil hisnil=>aq<|pg (ht J) (fun hc=>?_) (fun hc=>?_)
 ·have hx:=hisnil hc
  have h:some HP=some R:=by simpa [fD,app,hx] using h
  refine av<|ca false dg 43<|zo J (aT tg)<|aq<|aj<|ae ?_;cases so h;exact gK J J
 ·refine df<|av<|kG (r:=dg) (ys:=HP) (xs:=[]) jN eg J J J J J trivial J fun l c=>aE J<|bo h fun x q_x h=>cV eg J J J J jN J J (ht J) (ht J) q_x fun l1 c1=>bg J<|aq<|aj ?_;cases so h;exact gK J J
theorem VH(s:(List (List ac))){R:(List (List ac))}(h:fD s=some R):aR aU 180 [cq (dg) s] (cq (dg) R):=(Sz _ h).spec

theorem Wa(l:(List (List ac)))(columns:(List Int)){R:(List iB)×Int}(h:tI l columns=some R):aR aU 105 [cq (dg) l,mH columns] (tT [cq (gm) R.1,bM R.2]):=by
 refine LB Tryz.func105 J J J fun w0 S0=>av<|zo J (gi J)<|zo J (aT (show aO _ _ _ (cq (gm) ([]))from kJ))<|zo J (bW)<|aq<|ah<|av<|aE J<|zo J (bh eQ J J)<|bo h fun r q_r h=>zo J (ap ab4 (VK _ _ q_r) ⟨(ht J),(ht J),aL⟩)<|bg J<|aq<|av<|aE J<|zo J (sx J)<|aq ?_;refine ce h J (fun h=>?_) (fun h=>?_)
 ·refine av<|aE J<|zo J (aT (show aO _ _ _ (cq (gm) ([]))from kJ))<|bg J<|aq<|aj<|ae<|sv ?_;cases so h;exact cW J J J
 ·refine df<|av<|aE J<|bo h fun r1 q_r1 h=>jh XA (Lf _ q_r1) ⟨(ht J),aL⟩ J fun l1 c=>bg J<|aq<|av<|aE J<|zo J ((show bZ _ _ _ _ ((ei aU F1 ze (fun(x:(List ac)×(List ac))=>(mN columns) x.1 x.2)))from i8 (cts:=[bN nQ columns]) (caps:=[.tmp 3]) ab3 ⟨(ht J),aL⟩ (fun x y h=>VJ _ _ _ h)))<|bo h fun u0 q_srt h=>?_;refine FG (n:=r1.length) wS ?_ S7 ?_ q_srt ?_ ?_ ?_ ?_ ?_
  ·rfl
  ·rfl
  ·exact(ht J)
  ·rfl
  ·exact(ht J)
  ·rfl
  intro hl
  refine o7 hl 18 J<|o7 hl 7 J<|o7 hl 19 J<|aq<|av<|zo J ((show bZ _ _ _ _ ((ei aU F1 mI (fun(x:(List ac)×(List ac))=>(gE columns) x.1 x.2)))from i8 (cts:=[bN nQ columns]) (caps:=[.tmp 3]) ab2 ⟨(ht J),aL⟩ (fun x y h=>VI _ _ _ h)))<|bg J<|aq<|av<|ca false gm 154<|aP (x:=bc none 0 0) NY (fun _=>EN) J fun b=>aq<|ah<|av<|aE J<|aE J<|gj<|kO ?_;refine jM 18 J<|jM 7 J<|jM 19 J<|jM 23 J<|bo h fun it q_it h=>Hw ab1 (SA _ _ q_it) ⟨(lJ (ht J)),(ht J),aL⟩ J fun v fp=>aq<|aC<|bo h fun s q_s h=>?_;refine QS (fun(i:Option Nat×Nat×List iB)=>[ez dg 43 l1 c u0,bx rV 150 b (bc i.1 i.2.1 i.2.2.length),fL gm 154 i.1 i.2.1 i.2.2]) (fun(i:Option Nat×Nat×List iB)=>(i.2.2)) J (ht J) (none,0,([]:List iB)) J q_s (fun _=>J) J (fun i x s2 h lp rec1 _ _ _=>?_) (fun i hi bd=>?_)
  ·obtain⟨l2,c1,xs⟩:=i
   replace h:kD columns x xs=some s2:=h
   refine(show CG _ _ _ [ww lp rec1 .ready,ez dg 43 l1 c u0,bx rV 150 b (bc l2 c1 xs.length),fL gm 154 l2 c1 xs] _ from ?_);refine FS (G' :=[(0,cq (dg) l),(1,mH columns),(3,bN nQ columns),(4,cq (gm) ([])),(5,bM 0),(6,bM r),(7,tO dg l1 c u0),(8,(ei aU F1 mI (fun(x:(List ac)×(List ac))=>(gE columns) x.1 x.2))),(9,tV (aS b 0)),(11,cq (dg) l),(12,mH columns),(13,bM r),(14,bM r),(15,hJ (r !=(0:Int))),(17,cq (dg) l),(18,tO dg l1 c u0),(19,tO dg l1 c u0),(20,(ei aU F1 ze (fun(x:(List ac)×(List ac))=>(mN columns) x.1 x.2))),(22,(ei aU F1 mI (fun(x:(List ac)×(List ac))=>(gE columns) x.1 x.2))),(23,tO dg l1 c u0),(24,(ei aU F1 mI (fun(x:(List ac)×(List ac))=>(gE columns) x.1 x.2))),(26,cq (dg) x)]) ?_ ⟨J,J,J,J,J,J,J,J,J,J,J,J,J,J,J,J,J,J,J,J,J,J,aL⟩;refine aA<|bg J<|aQ<|TC<|aC<|bo h fun e q_e h=>bo h fun r2 q_r2 h=>bo h fun r3 q_r3 h=>?_
   refine my 10 (ts:=[sw l2 c1 xs,cq (dg) x,bN dg e,cq (af) e,mH columns,cq (af) r2,cq (dg) x,cq (dg) r3,tD gm (⟨r2,r3⟩:iB),cq (gm) ([(⟨r2,r3⟩:iB)])]) mixed J J J
    ⟨dB 9 J J J (im NY (.tail _ (.tail _ (.head _))) (ht J)),
    ⟨dB 10 J J J (cX J),
    ⟨bT 28 1 J J J (bF jN eg J (ht J) hI q_e),
    ⟨bT 29 2 J J J (bh eg J J),
    ⟨dB 3 J J J (bh eQ J J),
    ⟨cK 30 3 31 4 J J J J (ap Lt (Br _ _ q_r2) ⟨(ht J),(ht J),aL⟩),
    ⟨dB 10 J J J (cX J),
    ⟨bT 33 6 J J J (ap ab0 (VH _ q_r3) ⟨(ht J),aL⟩),
    ⟨cK 32 5 34 7 J J J J (bB (y:=(⟨r2,r3⟩:iB)) AV Xa Eb (⟨_,_,_,_,_,J,Mv,J,(ht J),⟨_,_,_,_,_,J,Mu,J,(ht J),J⟩⟩)),
    ⟨bT 35 8 J J J (bf (r:=gm) (ys:=[(⟨r2,r3⟩:iB)]) (xs:=[.tmp 35]) GD AV J J J J J ⟨(ht J),aL⟩),
    aL⟩⟩⟩⟩⟩⟩⟩⟩⟩⟩ ?_
   refine oM<|bo h fun l3 q_l3 h=>cV AV J J J J GD J J (ht J) (ht J) q_l3 fun l4 c2=>oM<|am NY J ai J (ht J) (R1 (ht J))<|aQ<|aw<|bI<|bI<|cy<|cy ?_;exact LY (l4,c2,l3) (so h) J
  ·skip
   obtain⟨l5,c3,xs1⟩:=i
   have hi:xs1=s:=hi
   subst hi
   refine(show AT _ _ _ [BF bd,ez dg 43 l1 c u0,bx rV 150 b (bc l5 c3 xs1.length),fL gm 154 l5 c3 xs1] _ from ?_);refine ci (G' :=[(0,cq (dg) l),(1,mH columns),(3,bN nQ columns),(4,cq (gm) ([])),(5,bM 0),(6,bM r),(7,tO dg l1 c u0),(8,(ei aU F1 mI (fun(x:(List ac)×(List ac))=>(gE columns) x.1 x.2))),(9,tV (aS b 0)),(11,cq (dg) l),(12,mH columns),(13,bM r),(14,bM r),(15,hJ (r !=(0:Int))),(17,cq (dg) l),(18,tO dg l1 c u0),(19,tO dg l1 c u0),(20,(ei aU F1 ze (fun(x:(List ac)×(List ac))=>(mN columns) x.1 x.2))),(22,(ei aU F1 mI (fun(x:(List ac)×(List ac))=>(gE columns) x.1 x.2))),(23,tO dg l1 c u0),(24,(ei aU F1 mI (fun(x:(List ac)×(List ac))=>(gE columns) x.1 x.2)))]) ?_ ⟨J,J,J,J,J,J,J,J,J,J,J,J,J,J,J,J,J,J,J,J,J,aL⟩;refine aw<|ax<|av<|zo rfl (im NY (.tail _ (.tail _ (.head _))) (ht rfl))<|bg rfl<|zo rfl (bW)<|aq<|aj<|cy<|jS<|cP 4 rfl<|cP 38 rfl<|jT 4 rfl<|aZ<|bI<|aZ<|bI<|aZ<|BV<|sv ?_;cases so h;exact cW J J J

theorem aap(b:Nat)(ix:OI)(r:dh)(n:ay){R:(List (List ac))×Int}(h:js r n=some R):dl aU 54 [tV (aS b 0),tD aW n] (jE b r ix) (fun _:OI=>tT [cq (dg) R.1,bM R.2]) (fun _=>(jE b r ix)):=by
 refine dl.of Tryz.func54 J J J fun w0 S0=>?_;refine(show CG _ _ _ [bx (rH eS [(1,bc (ix.h 0).1 (ix.h 0).2 r.rows.length),(2,bc (ix.h 1).1 (ix.h 1).2 r.width.length)]) 96 b r,ez ee 32 (ix.h 0).1 (ix.h 0).2 r.rows,ez cj 3 (ix.h 1).1 (ix.h 1).2 r.width] _ from ?_);refine av<|zo J (gi J)<|zo J (aT (show aO _ _ _ we from kJ))<|zo J (bW)<|aq<|ah<|bo h fun e q_e h=>bo h fun r1 q_r1 h=>?_
 refine cD (ts:=[_,_,_,_,_,_,_,_,_,_,_,_,_,_,_,_]) mixed J J
  ⟨dB 0 J J J (cX J),
  ⟨bT 17 0 J J J (dQ (ht J)),
  ⟨bT 18 1 J J J (je 1 rl J J J),
  ⟨bT 19 2 J J J (dx zf J (.head _) (.tail _ (.head _)) (ht J)),
  ⟨dB 3 J J J (bX kq d9 J J),
  ⟨bT 21 4 J J J (bh cg J J),
  ⟨cK 20 3 22 5 J J J J (bF qP iy J (lJ (ht J)) (ht J) q_e),
  ⟨bT 23 6 J J J (bh iy J J),
  ⟨dB 3 J J J (bX vc oe J J),
  ⟨bT 25 8 J J J (bh eQ J J),
  ⟨cK 24 7 26 9 J J J J (ap acx (Wa _ _ q_r1) ⟨(ht J),(ht J),aL⟩),
  ⟨bT 27 10 J J J (cX J),
  ⟨bT 16 11 J J J (dX J J),
  ⟨bT 16 11 J J J (dX J J),
  ⟨bT 28 12 J J J (rN J),
  ⟨bT 29 13 J J J (rN J),
  aL⟩⟩⟩⟩⟩⟩⟩⟩⟩⟩⟩⟩⟩⟩⟩⟩ ?_
 refine ax<|ah<|av<|aE rfl<|zo rfl (sx rfl)<|aq<|ce h rfl (fun h=>?_) (fun h=>?_)
 ·refine av<|aE J<|zo J (aT (show aO _ _ _ we from kJ))<|bg J<|aq<|aj<|ae<|aM<|aM<|aM ?_;cases so h;exact eN (ts:=[cq (dg) ([]),bM r1.2]) (rvs:=[.tmp 4,.tmp 5]) J J ⟨aK J,aK J,aL⟩ pj J J
 ·refine df ?_;refine i6 (Z:=fun groups=>lV n groups=some R) (Of:=fun groups=>[bx (rH eS [(1,bc (ix.h 0).1 (ix.h 0).2 r.rows.length),(2,bc (ix.h 1).1 (ix.h 1).2 r.width.length)]) 96 b r,ez ee 32 (ix.h 0).1 (ix.h 0).2 r.rows,ez cj 3 (ix.h 1).1 (ix.h 1).2 r.width]) (Gf:=fun groups=>[(3,bN aW n),(6,cq (gm) groups)]) (fun groups h=>?_) (fun K=>?_)
  ·skip
   refine av<|ca false dg 43<|zo J (aT tg)<|aq<|ah<|av<|aE J<|zo J (jw GD J)<|zo J (bJ hI)<|aq<|aC<|bp (k:=44) J fun hN=>bQ ?_;refine ba (kX (Z:=fun ls i out l c=>(groups.drop i=ls)∧fT n ls out=some R) (Of:=fun _ i out l c=>[fL dg 43 l c out,bx (rH eS [(1,bc (ix.h 0).1 (ix.h 0).2 r.rows.length),(2,bc (ix.h 1).1 (ix.h 1).2 r.width.length)]) 96 b r,ez ee 32 (ix.h 0).1 (ix.h 0).2 r.rows,ez cj 3 (ix.h 1).1 (ix.h 1).2 r.width]) (Gf:=fun _ i out l c=>[(3,bN aW n),(8,sw l c out),(44,cq (gm) groups),(45,ky groups),(46,bM (i:Int))]) (fun i out l c h=>?_) (fun e1 tl ih i out l c h=>?_) groups 0 HP none 0 ⟨J,h⟩) (bD J)
   ·obtain⟨hx,h⟩:=h
    refine aG<|av<|zo J (fY J J)<|aq<|ah<|bL (ht J) (dO hx)<|bG ?_;refine ak (ak (aV ?_));refine ax<|av<|aE rfl<|bg rfl<|zo rfl (bW)<|aq<|aj<|jS<|cP 8 rfl<|cP 80 rfl<|cP 4 rfl<|jT 4 rfl<|aZ<|aM<|aM<|aM ?_;cases so h;exact eN (ts:=[cq (dg) out,bM 0]) (rvs:=[.tmp 4,.tmp 5]) J J ⟨aK J,aK J,aL⟩ pj J J
   ·obtain⟨hx,h⟩:=h
    refine aG<|av<|zo J (fY J J)<|aq<|ah<|bK (ht J) (dL hx)<|df<|ah<|aC<|av<|zo J (ne GD AV J J J (dA hx))<|zo J (bh AV J J)<|aP (r:=gm) (x:=TJ) AV (fun _=>Eb _) J fun b1=>am AV J ai J (ht J) (ht J)<|aY 10 J<|aq<|av<|zo J (bX UC Nf J J) ?_;refine zo J (bh eg J J)<|bo h fun r2 q_r2 h=>jh Tc (Fk _ q_r2) ⟨(ht J),aL⟩ J fun l1 c1=>bg J<|aq<|ah<|av<|zo J (bX t8 rh J J)<|zo J (bh Em J J)<|zo J (jw AI J)<|zo J (bJ hI)<|aq<|aC<|bp (k:=54) J fun hN1=>bQ<|li<|li<|li<|mw<|li ?_;refine ba (kX (Z:=fun ls1 i1 x l2 c2=>(n.Aggs.drop i1=ls1)∧iW (fT n tl) e1 out ls1 x=some R) (Of:=fun _ i1 x l2 c2=>[fL dg 43 l c out,fL af 46 l2 c2 x,bx (rH eS [(1,bc (ix.h 0).1 (ix.h 0).2 r.rows.length),(2,bc (ix.h 1).1 (ix.h 1).2 r.width.length)]) 96 b r,ez ee 32 (ix.h 0).1 (ix.h 0).2 r.rows,ez cj 3 (ix.h 1).1 (ix.h 1).2 r.width]) (Gf:=fun _ i1 x l2 c2=>[(3,bN aW n),(8,sw l c out),(10,bN gm e1),(11,sw l2 c2 x),(44,cq (gm) groups),(45,ky groups),(46,bM (i:Int)),(54,cq (eH) n.Aggs),(55,ky n.Aggs),(56,bM (i1:Int))]) (fun i1 x l2 c2 h=>?_) (fun e2 tl1 ih1 i1 x l2 c2 h=>?_) n.Aggs 0 r2 l1 c1 ⟨J,h⟩) (bD J)
    ·obtain⟨hx1,h⟩:=h
     refine aG<|av<|zo J (fY J J)<|aq<|ah<|bL (ht J) (dO hx1)<|bG ?_;refine ak (ak (aV ?_));refine ax<|aA<|aE rfl<|aE rfl<|bq<|kO<|jM 11 rfl<|jM 76 rfl<|zo rfl (bf (r:=dg) (ys:=[x]) (xs:=[.tmp 76]) jN eg J J J J J ⟨(lJ (ht J)),aL⟩)<|bq<|bo h fun out1 q_out1 h=>cV eg J J J J jN J J (ht J) (ht J) q_out1 fun l3 c3=>bg J<|aQ<|aw<|ax<|aA<|zo rfl (nf (dd hx hN) rfl)<|aE rfl<|aQ<|bI<|aZ ?_;exact bn (ba (ih (i+1) out1 l3 c3 ⟨dc hx,h⟩) (bD J))
    ·obtain⟨hx1,h⟩:=h
     refine aG<|av<|zo J (fY J J)<|aq<|ah<|bK (ht J) (dL hx1)<|df<|ah<|aC<|av<|zo J (ne AI uZ J J J (dA hx1))<|zo J (bh uZ J J)<|aP (r:=eH) (x:=(⟨(0:Int),B2⟩:gv)) uZ (fun _=>HO _) J fun b2=>am uZ J ai J (ht J) (ht J)<|aY 13 J<|aq<|av<|zo J (bh uZ J J) ?_;refine zo J (bX UB Nc J J)<|zo J (bh iy J J)<|bo h fun r3 q_r3 h=>zo J (ap aaF (Sl _ _ q_r3) ⟨(ht J),(ht J),aL⟩)<|aE J<|zo J (dX J J)<|zo J (dX J J)<|aP (r:=af) (x:=d3) au (fun _=>aJ _) J fun b3=>am au J ai J (ht J) (ht J)<|aY 14 J<|bg J<|aq<|ah<|av<|aE J<|zo J (sx J)<|aq<|ce h J (fun h=>?_) (fun h=>?_)
     ·refine av<|aE J<|zo J (aT (show aO _ _ _ we from kJ))<|bg J<|aq<|aj ?_;refine ae (aB (ae (ae (aB (ae (aB (ae (ae (aB (ae ?_))))))))));refine aZ<|aZ<|aM<|aM<|aM ?_;cases so h;exact eN (ts:=[cq (dg) ([]),bM r3.2]) (rvs:=[.tmp 4,.tmp 5]) J J ⟨aK J,aK J,aL⟩ pj J J
     ·refine df<|aA<|aE J<|zo J (bh au J J)<|zo J (bf (r:=af) (ys:=[r3.1]) (xs:=[.tmp 71]) iw au J J J J J ⟨(ht J),aL⟩)<|bq<|bo h fun x1 q_x1 h=>cV au J J J J iw J J (ht J) (ht J) q_x1 fun l4 c4=>bg J<|aQ<|aw<|ax<|aA<|zo rfl (nf (dd hx1 hN1) rfl)<|aE rfl<|aQ<|fR<|fR<|fR<|cy<|fR ?_;exact bn (ba (ih1 (i1+1) x1 l4 c4 ⟨dc hx1,h⟩) (bD J))
  ·skip
   refine av<|zo J (bX vc oe J J)<|zo J (bh eQ J J)<|zo J (jw iv J)<|zo J (hM J)<|aE J<|co J J (fun hg=>cX J)<|co J J (fun hg=>dK GD (bm J hg))<|co J J (fun hg=>cd (bm J hg) hI)<|zo J (pH J J)<|aq<|ce h J (fun h=>?_) (fun h=>?_)
   ·refine aA<|zo J (bB (y:=TJ) AV Xa Eb (J))<|zo J (bf (r:=gm) (ys:=[TJ]) (xs:=[.tmp 42]) GD AV J J J J J ⟨(ht J),aL⟩)<|bg J<|aQ ?_;exact ci (K ([TJ]) h) (bD J)
   ·refine bA ?_;exact ci (K r1.1 h) (bD J)

end Go.Proofs.YtfhhakidodmdfaaGreatDoor

