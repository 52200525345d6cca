/- eJ of this claim: P13. -/
import Derived.Test.YtpgjgkdpeagjbaaGreatDoorJaT
import Derived.Test.YtpgjgkdpeagjbaaGreatDoorJaP12
set_option linter.all false
namespace Go.Proofs.YtpgjgkdpeagjbaaGreatDoor
open Go
set_option maxRecDepth 100000

def acr{R}(h:H6=some R):bY aU 15 [] (tD aW R):=by
 exact co Tryz.func15 J<|Z<|aQ iE mS J fun b=>bB<|Z<|T (aI (r:=cI) (ys:=[(2:Int)]) (xs:=[.const (.int .i64 (2))]) fz cj J J J J J ⟨hI,O⟩)<|T (bM (y:=(⟨(1:Int),yM,yM,(0:Int),[(2:Int)],false,Nl,[],[],[],[],(0:Int)⟩:aq)) iE adH mS (⟨_,_,_,_,_,J,Hl,J,hI,⟨_,_,_,_,_,J,Hk,J,hI,⟨_,_,_,_,_,J,CE,J,hI,⟨_,_,_,_,_,J,CD,J,(Y J),J⟩⟩⟩⟩))<|be iE ah J<|aV 0 J<|cK<|so h▸fT J iE J J J

def acp k{R}(h:Kn k=some R):bY aU 16 [bD k] (tD cm R):=by
 exact co Tryz.func16 J<|Z<|aQ jk vm J fun b=>bB<|ax J<|T (bM (y:=(⟨(2:Int),yM,yM,k,vn⟩:bZ)) nw af5 qc (⟨_,_,_,_,_,J,Qc,J,hI,⟨_,_,_,_,_,J,Qb,J,hI,⟨_,_,_,_,_,J,Qa,J,hI,⟨_,_,_,_,_,J,PZ,J,(Y J),J⟩⟩⟩⟩))<|T (aI (r:=cx) (ys:=[(⟨(2:Int),yM,yM,k,vn⟩:bZ)]) (xs:=[.tmp 4]) qC nw J J J J J ⟨(Y J),O⟩)<|T (bM (y:=(⟨[(⟨(2:Int),yM,yM,k,vn⟩:bZ)]⟩:cy)) jk abI vm (⟨_,_,_,_,_,J,Bd,J,(Y J),J⟩))<|be jk ah J<|aV 2 J<|cK<|so h▸fT J jk J J J

def R6 k{R}(h:Mc k=some R):fR aU 40 [bD k] false ae 57 R:=by
 exact fR.of Tryz.func40 J J J fun w0 S0=>Z<|bQ false ae 57<|T (bp qa)<|bB<|ax J<|T (bM (y:=(⟨(2:Int),k,(0:Int),[]⟩:ac)) an jg aL (⟨_,_,_,_,_,J,lu,J,hI,⟨_,_,_,_,_,J,nf,J,(Y J),J⟩⟩))<|mo (r:=ae) (ys:=[(⟨(2:Int),k,(0:Int),[]⟩:ac)]) (xs:=[.tmp 4]) nD an J J J J J ⟨(Y J),O⟩ J fun l c=>aM J<|so h▸fY J J
def aco{R}(h:FU=some R):bY aU 17 [] (tD fX R):=by
 refine co Tryz.func17 J<|Z<|aQ xz Dp J fun b=>bB<|Z<|lI h aee (R6 _) (bj J) fun r h l c=>lI h aee (R6 _) (bj J) fun r1 h l1 c1=>T (bM an jg aL J)<|T (aI (r:=ae) (ys:=[vn]) (xs:=[.tmp 3]) nD an J J J J J ⟨(Y J),O⟩)<|bu<|gm<|dn 1 J<|bu<|gm<|dn 2 J<|T (aI (r:=cu) (ys:=[r,r1,[vn]]) (xs:=[.tmp 1,.tmp 2,.tmp 4]) eK cP J J J J J ⟨(km (Y J)),(km (Y J)),(Y J),O⟩)<|T (aI (r:=ei) (ys:=[[r,r1,[vn]]]) (xs:=[.tmp 5]) lr gb J J J J J ⟨(Y J),O⟩)<|T (bM (y:=(⟨[[r,r1,[vn]]]⟩:dg)) xz af7 Dp (⟨_,_,_,_,_,J,Tq,J,(Y J),J⟩))<|gk ?_;exact be xz ah J<|aV 0 J<|cK<|aG<|aG<|so h▸fT J xz J J J

def adO{R}(h:xg=some R):bY aU 4 [] (gM R):=by
 refine co Tryz.func4 J<|Z<|ca<|bB<|Z<|bS h aha acr trivial fun r h=>T (bM (y:=UD) vu adG GY (⟨_,_,_,_,_,J,NN,J,hI,J⟩))<|bS h ag9 (acp _) (bj J) fun r1 h=>T (bM (y:=(⟨(3:Int),r1⟩:jt)) vu adG GY (⟨_,_,_,_,_,J,NN,J,hI,⟨_,_,_,_,_,J,NM,J,(Y J),J⟩⟩))<|T (aI (r:=eM) (ys:=[UD,(⟨(3:Int),r1⟩:jt)]) (xs:=[.tmp 5,.tmp 7]) uz vu J J J J J ⟨(Y J),(Y J),O⟩)<|T (bM (y:=(⟨(4:Int),(0:Int),yM,(0:Int),[],false,Nl,[],[UD,(⟨(3:Int),r1⟩:jt)],[],[],(0:Int)⟩:aq)) iE adH mS (⟨_,_,_,_,_,J,Hl,J,hI,⟨_,_,_,_,_,J,CE,J,hI,⟨_,_,_,_,_,J,Hi,J,(Y J),J⟩⟩⟩))<|T (aI (r:=aW) (ys:=[r,(⟨(4:Int),(0:Int),yM,(0:Int),[],false,Nl,[],[UD,(⟨(3:Int),r1⟩:jt)],[],[],(0:Int)⟩:aq)]) (xs:=[.tmp 4,.tmp 9]) tm iE J J J J J ⟨(Y J),(Y J),O⟩)<|T (bM (y:=(⟨[r,(⟨(4:Int),(0:Int),yM,(0:Int),[],false,Nl,[],[UD,(⟨(3:Int),r1⟩:jt)],[],[],(0:Int)⟩:aq)]⟩:cC)) ny abJ v7 (⟨_,_,_,_,_,J,PV,J,(Y J),J⟩))<|aQ ny v7 J fun b=>be ny ah J<|aV 1 J<|bB<|aA ?_;refine ci h fun r2 q_r2 h=>ci h fun r3 q_r3 h=>?_
 refine iQ (ts:=[_,_,_,_,_,_,_,_]) mixed J J
  ⟨jH 1 J J (nE ny J J),
  ⟨PI J (bo ag8 (aco q_r2) trivial),
  ⟨cM 13 0 14 1 J J J (bo cb8 (aak _ _ q_r3) ⟨(Y J),(Y J),O⟩),
  ⟨cT 15 2 J J (gL J),
  ⟨cT 12 3 J J (vo J J),
  ⟨cT 12 3 J J (vo J J),
  ⟨cT 16 4 J J (sE J),
  ⟨cT 17 5 J J (sE J),
  O⟩⟩⟩⟩⟩⟩⟩⟩ ?_
 refine ap<|ax J<|bP J<|Q J<|aw J (cG J)<|aw J (jJ eK J)<|aw J (fV J)<|dv J<|Q J<|ci h fun t q_t h=>aw J (cG J) ?_
 obtain⟨e,h1t,h0t⟩:=og q_t
 have q_eg:=fun M=>(h1t M).1
 refine aw J (fun H=>bm eK cP J (bG J H) hI (q_eg H))<|aw J (cN cP J J)<|aw J (jJ nD J)<|aw J (fV J)<|T (cQ (Y J) (fun M=>(bG J M)) (fun M=>(h1t M).2) h0t)<|Q J<|ci h fun t1 q_t1 h=>aw J (cG J) ?_
 obtain⟨e1,h1t1,h0t1⟩:=og q_t1
 have q_e1g:=fun M=>(h1t1 M).1
 refine aw J (fun H=>bm eK cP J (bG J H) hI (q_e1g H))<|aw J (cN cP J J) ?_
 obtain⟨e2,h1t1⟩:=RI (fun M=>(h1t1 M).2)
 have q_e2g:=fun M=>(h1t1 M).1
 refine aw J (fun H=>bm nD an J (bG J H) hI (q_e2g H))<|aw J (fun H=>oK fC J cE J (bG J H))<|aw J (cN wd J J)<|aw J (fV J)<|T (cQ (Y J) (fun M=>(bG J M)) (fun M=>(h1t1 M).2) h0t1)<|Q J<|ci h fun t2 q_t2 h=>aw J (cG J) ?_
 obtain⟨e3,h1t2,h0t2⟩:=og q_t2
 have q_e3g:=fun M=>(h1t2 M).1
 refine aw J (fun H=>bm eK cP J (bG J H) hI (q_e3g H))<|aw J (cN cP J J) ?_
 obtain⟨e4,h1t2⟩:=RI (fun M=>(h1t2 M).2)
 have q_e4g:=fun M=>(h1t2 M).1
 exact aw J (fun H=>bm nD an J (bG J H) hI (q_e4g H))<|aw J (fun H=>oK fC J cE J (bG J H))<|aw J (cN wd J J)<|aw J (fV J)<|T (cQ (Y J) (fun M=>(bG J M)) (fun M=>(h1t2 M).2) h0t2)<|aM J<|so h▸av J J

def acn l most{R}(h:s7 l most=some R):bY aU 18 [cr (cu) l,bD most] (gM R):=by
 refine co Tryz.func18 J<|Z<|ca<|bB<|aE<|Q J<|ck eK J<|Q J<|T (dy (Y J) (Y J))<|bE h J (fun h=>?_) (fun h=>?_)
 ·exact Z<|ca<|cK<|af<|so h▸av J J
 ·refine dZ<|aE<|Q J<|ck eK J<|T (cv hI)<|bB<|am<|aZ (k:=13) J fun hN=>bA ?_;refine aD (eI (aF:=fun ls i=>(l.drop i=ls)/\jX ls=some R) (Of:=fun _ i=>[]) (Gf:=fun _ i=>[(13,cr (cu) l),(14,kP l),(15,bD (i:Int))]) (fun i h=>?_) (fun e tl ih i h=>?_) l 0 ⟨J,h⟩) (bf J)
  ·obtain⟨V,h⟩:=h
   exact eY V J<|ap<|Z<|ca<|cK<|so h▸av J J
  ·obtain⟨V,h⟩:=h
   refine eX V J<|aA<|am<|Z<|cW eK cP J (cD V)<|aC J<|aE<|Q J<|ck nD J ?_;refine T (dy (Y J) hI)<|bE h J (fun h=>?_) (fun h=>?_)
   ·exact Z<|ca<|cK<|af<|bT<|af<|bT<|so h▸av J J
   ·refine dZ<|ax J<|ck nD J<|T (cv hI)<|bB<|am<|aZ (k:=22) J fun hN1=>bA ?_;refine aD (eI (aF:=fun ls1 i1=>(e.drop i1=ls1)/\m6 (jX tl) ls1=some R) (Of:=fun _ i1=>[]) (Gf:=fun _ i1=>[(13,cr (cu) l),(14,kP l),(15,bD (i:Int)),(22,cr (ae) e),(23,kP e),(24,bD (i1:Int))]) (fun i1 h=>?_) (fun e1 tl1 ih1 i1 h=>?_) e 0 ⟨J,h⟩) (bf J)
    ·obtain⟨hx1,h⟩:=h
     refine eY hx1 J<|dR V hN J ?_;exact aR (aD (ih (i+1) ⟨cH V,h⟩) (bf J))
    ·obtain⟨hx1,h⟩:=h
     refine eX hx1 J<|aA<|am<|Z<|cW nD an J (cD hx1)<|aQ an aL J fun b=>be an ah J<|aV 8 J<|bB<|Z<|wV k7 eH J ?_;refine bn EL J<|T (ur yJ (Y J))<|T (dy (Y J) hI)<|bE h J (fun h=>?_) (fun h=>?_)
     ·exact Z<|ca<|cK<|bT<|af<|lq<|bT<|af<|bT<|so h▸av J J
     ·refine bc<|dR hx1 hN1 J ?_;exact aR (aD (ih1 (i1+1) ⟨cH hx1,h⟩) (bf J))

def adM b{R}(h:s8 b=some R):bY aU 5 [tD fX b] (gM R):=by
 refine co Tryz.func5 J<|Z<|bO J<|ca<|bB<|aE<|bg oO jB q6 J<|ck lr J<|T (dy (Y J) hI)<|bE h J (fun h=>?_) (fun h=>?_)
 ·exact Z<|ca<|cK<|af<|so h▸av J J
 ·refine dZ<|aE<|bg oO jB q6 J<|ck lr J<|T (cv hI)<|bB<|am<|aZ (k:=10) J fun hN=>bA ?_;refine aD (eI (aF:=fun ls i=>(b.Tables.drop i=ls)/\m8 ls=some R) (Of:=fun _ i=>[]) (Gf:=fun _ i=>[(10,cr (ei) b.Tables),(11,kP b.Tables),(12,bD (i:Int))]) (fun i h=>?_) (fun e tl ih i h=>?_) b.Tables 0 ⟨J,h⟩) (bf J)
  ·obtain⟨V,h⟩:=h
   exact eY V J<|ap<|Z<|ca<|cK<|so h▸av J J
  ·obtain⟨V,h⟩:=h
   refine eX V J<|aA<|am<|Z<|cW lr gb J (cD V)<|aC J<|ax J<|bS h ag7 (acn _ _) (bj J) fun r h=>?_;refine bE h J (fun h=>?_) (fun h=>?_)
   ·exact Z<|ca<|cK<|bT<|af<|bT<|so h▸av J J
   ·refine bc<|dR V hN J ?_;exact aR (aD (ih (i+1) ⟨cH V,h⟩) (bf J))

def QN e{R}(h:nX e=some R):bY aU 19 [tD cm e] (gM R):=by
 refine co Tryz.func19 J<|Z<|bO J<|ca<|bB<|aE<|bg la gj uD J<|ck qC J<|T (dy (Y J) hI)<|bE h J (fun h=>?_) (fun h=>?_)
 ·exact Z<|ca<|cK<|af<|so h▸av J J
 ·refine dZ<|aE<|bg la gj uD J<|ck qC J<|T (cv hI)<|bB<|am<|aZ (k:=10) J fun hN=>bA ?_;refine aD (eI (aF:=fun ls i=>(e.Nodes.drop i=ls)/\m7 ls=some R) (Of:=fun _ i=>[]) (Gf:=fun _ i=>[(10,cr (cx) e.Nodes),(11,kP e.Nodes),(12,bD (i:Int))]) (fun i h=>?_) (fun e1 tl ih i h=>?_) e.Nodes 0 ⟨J,h⟩) (bf J)
  ·obtain⟨V,h⟩:=h
   exact eY V J<|ap<|Z<|ca<|cK<|so h▸av J J
  ·obtain⟨V,h⟩:=h
   refine eX V J<|aA<|am<|Z<|cW qC nw J (cD V)<|aQ nw qc J fun b=>be nw ah J<|aV 4 J<|bB<|Z<|wV wB mE J ?_;refine bg k7 eH EL J<|T (ur yJ (Y J))<|T (dy (Y J) hI)<|bE h J (fun h=>?_) (fun h=>?_)
   ·exact Z<|ca<|cK<|bT<|af<|bT<|so h▸av J J
   ·refine bc<|dR V hN J ?_;exact aR (aD (ih (i+1) ⟨cH V,h⟩) (bf J))

def adL l b{R}(h:zf l b=some R):bY aU 6 [tD cX l,tD fX b] (gM R):=by
 refine co Tryz.func6 J<|Z<|bO J<|bO J<|ca<|bB<|aE<|bg mM gi wR J<|ck tm J<|T (dy (Y J) hI)<|bE h J (fun h=>?_) (fun h=>?_)
 ·exact Z<|ca<|cK<|af<|so h▸av J J
 ·refine dZ<|Z<|bh<|bB<|aE<|bg mM gi wR J<|ck tm J<|T (cv hI)<|bB<|am<|aZ (k:=17) J fun hN=>bA ?_;refine aD (ol (aF:=fun ls i rows=>(l.Nodes.drop i=ls)/\ml b ls rows=some R) (Of:=fun _ i rows=>[]) (Gf:=fun _ i rows=>[(3,bF fX b),(5,bD rows),(17,cr (aW) l.Nodes),(18,kP l.Nodes),(19,bD (i:Int))]) (fun i rows h=>?_) (fun e tl ih i rows h=>?_) l.Nodes 0 (1:Int) ⟨J,h⟩) (bf J)
  ·obtain⟨V,h⟩:=h
   exact eY V J<|ap<|ax J<|T (dy (Y J) hI)<|aM J<|so h▸av J J
  ·obtain⟨V,h⟩:=h
   refine eX V J<|aA<|am<|Z<|cW tm iE J (cD V)<|aQ iE mS J fun b1=>be iE ah J<|aV 7 J<|bB<|aE ?_;refine bg pU iZ eQ J<|ck fz J<|T (dy (Y J) hI)<|Q J<|aO J (cZ pT iY J J)<|aO J (cN eQ J J)<|aO J (jJ fz J)<|aO J (fun H=>dy (bG J H) hI)<|fj J<|Q J<|aO J (cZ pX kh J J)<|aO J (cN Cy J J)<|aO J (jJ xu J)<|aO J (fun H=>dy (bG J H) hI)<|fj J<|Q J<|aO J (cZ pS kI J J)<|aO J (cN zX J J)<|aO J (jJ vk J)<|aO J (fun H=>dy (bG J H) hI)<|fj J<|Q J<|aO J (cZ oM kJ J J) ?_;refine aO J (cN zY J J)<|aO J (jJ uz J)<|aO J (fun H=>dy (bG J H) hI)<|fj J<|Q J<|ci h fun t q_t h=>aO J (cZ rZ kK J J)<|aO J (cN jk J J) ?_
   obtain⟨r,h1t,h0t⟩:=og q_t
   have q_rg:=fun M=>(h1t M).1
   refine aO J (fun H=>bo acV (QN _ (q_rg H)) ⟨(bG J H),O⟩)<|T (eC (Y J) (fun M=>(bG J (pQ M))) (fun M=>(h1t M).2) h0t)<|bE h J (fun h=>?_) (fun h=>?_)
   ·exact Z<|ca<|cK<|af<|bT<|af<|bT<|so h▸av J J
   ·refine dZ<|aE<|bg pS kI zX J<|ck vk J<|T (cv hI)<|bB<|am<|aZ (k:=57) J fun hN1=>bA ?_;refine aD (eI (aF:=fun ls1 i1=>(e.Items.drop i1=ls1)/\pK b (ml b tl) e rows ls1=some R) (Of:=fun _ i1=>[]) (Gf:=fun _ i1=>[(3,bF fX b),(5,bD rows),(7,bF aW e),(17,cr (aW) l.Nodes),(18,kP l.Nodes),(19,bD (i:Int)),(57,cr (cm) e.Items),(58,kP e.Items),(59,bD (i1:Int))]) (fun i1 h=>?_) (fun e1 tl1 ih1 i1 h=>?_) e.Items 0 ⟨J,h⟩) (bf J)
    ·obtain⟨hx1,h⟩:=h
     refine eY hx1 J<|ap<|aE<|bg oM kJ zY J<|ck uz J<|T (cv hI)<|bB<|am<|aZ (k:=67) J fun hN2=>?_;refine bA ?_;refine aD (eI (aF:=fun ls2 i2=>(e.Aggs.drop i2=ls2)/\pJ b (ml b tl) e rows ls2=some R) (Of:=fun _ i2=>[]) (Gf:=fun _ i2=>[(3,bF fX b),(5,bD rows),(7,bF aW e),(17,cr (aW) l.Nodes),(18,kP l.Nodes),(19,bD (i:Int)),(67,cr (eM) e.Aggs),(68,kP e.Aggs),(69,bD (i2:Int))]) (fun i2 h=>?_) (fun e2 tl2 ih2 i2 h=>?_) e.Aggs 0 ⟨J,h⟩) (bf J)
     ·obtain⟨hx2,h⟩:=h
      refine eY hx2 J<|ap<|Z<|bg oN gJ cj J<|bP J<|Q J<|aw J (cZ qX jp J J)<|aw J (cN cj J J)<|aw J (fun H=>eF (bG J H) hI)<|dv J<|Q J ?_;refine aw J (cZ qX jp J J)<|aw J (cN cj J J)<|aw J (cZ oO jB J J)<|aw J (cN q6 J J)<|aw J (jJ lr J)<|aw J (fun H=>du (bG J H) (bG J H))<|dv J<|bE h J (fun h=>?_) (fun h=>?_)
      ·refine au<|Q J<|bg oO jB q6 J<|bg qX jp cj J<|ci h fun e3 q_e3 h=>cW lr gb J q_e3<|ck eK J<|T (eG (Y J) hI)<|T (xF (Y J) (Y J))<|dC J<|aY<|dR V hN J ?_;exact aR (aD (ih (i+1) (IntKind.i64.wrap (rows*(IntKind.i64.wrap ((e3.length:Int)+(1:Int))))) ⟨cH V,h⟩) (bf J))
      ·refine bc<|dR V hN J ?_;exact aR (aD (ih (i+1) rows ⟨cH V,h⟩) (bf J))
     ·obtain⟨hx2,h⟩:=h
      refine eX hx2 J<|aA<|am<|Z<|cW uz vu J (cD hx2)<|aQ vu GY J fun b2=>be vu ah J<|aV 11 J<|bB<|Z<|wV xH ro J ?_;refine bn jk J<|bS h acV (QN _) (bj J) fun r1 h=>bE h J (fun h=>?_) (fun h=>?_)
      ·exact Z<|ca<|cK<|bT<|af<|bT<|bT<|af<|bT<|so h▸av J J
      ·refine bc<|dR hx2 hN2 J ?_;exact aR (aD (ih2 (i2+1) ⟨cH hx2,h⟩) (bf J))
    ·obtain⟨hx1,h⟩:=h
     refine eX hx1 J<|aA<|am<|Z<|cW vk jk J (cD hx1)<|aQ jk vm J fun b3=>be jk ah J<|aV 9 J<|bB<|Z<|bn jk J ?_;refine bS h acV (QN _) (bj J) fun r2 h=>bE h J (fun h=>?_) (fun h=>?_)
     ·exact Z<|ca<|cK<|bT<|af<|bT<|bT<|af<|bT<|so h▸av J J
     ·refine bc<|dR hx1 hN1 J ?_;exact aR (aD (ih1 (i1+1) ⟨cH hx1,h⟩) (bf J))

def Mx a1 b{R}(h:ni a1 b=some R):fR aU 20 [cr (ae) a1,cr (ae) b] false ae 57 R:=by
 refine fR.of Tryz.func20 J J J fun w0 S0=>Z<|bQ false ae 57<|T (bp qa)<|bB<|Z<|bQ false ae 57<|T (bp qa)<|bB<|ax J<|Q J<|ci h fun out q_out h=>bW an J J J J nD J J (Y J) (Y J) q_out fun l c=>aC J<|Z ?_;exact Q J<|Q J<|ci h fun x q_x h=>bW an J J J J nD J J (Y J) (Y J) q_x fun l1 c1=>aM J<|so h▸fY J J
def VR a1 b{R}(h:ni a1 b=some R):bY aU 20 [cr (ae) a1,cr (ae) b] (cr (ae) R):=(Mx _ _ h).spec

def adK b{R}(h:zb b=some R):bY aU 7 [tD fX b] (tD fX R):=by
 refine co Tryz.func7 J<|Z<|bO J<|aQ xz Dp J fun b1=>bB<|Z<|bQ true ei 32<|aQ (r:=si) (x:=tX Xb (bw none 0 (aa1.length))) xz Tg J fun b2=>bB<|aE<|bh<|bB<|am<|bA<|fh<|fh<|mR ?_;refine aD (zA (aF:=fun n i out l c=>nj b n i out=some R) (Of:=fun i out l c=>[bx fX 27 b1 Xb,bx si 27 b2 (tX out (bw l c out.Tables.length)),gO ei 32 l c out.Tables]) (Gf:=fun i out l c=>[(1,bF fX b),(2,tV (ba b1 0)),(3,tV (ba b2 0)),(4,bD i)]) (fun i out l c h=>nn h) (fun n ih i out l c h=>?_) fm (0:Int) ({Xb with Tables:=aa1}:dg) none 0 h) (bf J);refine cU<|aE<|Q J<|bg oO jB q6 J<|ck lr J<|kw J<|bE h J (fun h=>?_) (fun h=>?_)
 ·refine dZ<|aA<|am<|Z<|bQ false cu 54<|T (bp qa)<|bB<|aE<|bh<|bB<|am<|bA ?_;refine aD (zA (aF:=fun n1 l1 l2 c1 k=>rb b (nj b n) i out n1 l1 k=some R) (Of:=fun l1 l2 c1 k=>[ff cu 54 l2 c1 l1,bx fX 27 b1 Xb,bx si 27 b2 (tX out (bw l c out.Tables.length)),gO ei 32 l c out.Tables]) (Gf:=fun l1 l2 c1 k=>[(1,bF fX b),(2,tV (ba b1 0)),(3,tV (ba b2 0)),(4,bD i),(5,my l2 c1 l1),(6,bD k)]) (fun l1 l2 c1 k h=>nn h) (fun n1 ih1 l1 l2 c1 k h=>?_) fm yN none 0 (0:Int) h) (bf J);refine cU<|aE<|Q J<|bg oO jB q6 J<|Q J<|ci h fun e q_e h=>cW lr gb J q_e<|ck eK J<|kw J<|bE h J (fun h=>?_) (fun h=>?_)
  ·refine dZ<|aA<|am<|au<|Q J<|bg oO jB q6 J<|Q J<|cW lr gb J q_e<|Q J<|ci h fun e1 q_e1 h=>cW eK cP J q_e1<|lI h ZG (Mx _ _) ⟨(Y J),zh,O⟩ fun r h l3 c2=>gm<|dn 33 J<|T (aI (r:=cu) (ys:=[r]) (xs:=[.tmp 33]) eK cP J J J J J ⟨(km (Y J)),O⟩)<|bu<|ci h fun l4 q_l4 h=>bW cP J J J J eK J J (Y J) (Y J) q_l4 fun l5 c3=>dC J ?_;refine aY<|ay<|ap<|au<|Q J<|T (eG (Y J) hI)<|dC J<|aY<|bK<|aG ?_;exact aR (aD (ih1 l4 l5 c3 (IntKind.i64.wrap (k+(1:Int))) h) (bf J))
  ·refine d7<|aH<|aH<|cF<|ap<|au<|eZ 0 oO J<|T (Kk q6 OQ (.tail _ (.tail _ (.head _))) (.tail _ (.tail _ (.tail _ (.head _)))) J (Y J))<|Q J<|gm<|dn 5 J<|dn 38 J<|T (aI (r:=ei) (ys:=[l1]) (xs:=[.tmp 38]) lr gb J J J J J ⟨(km (Y J)),O⟩)<|oj<|ci h fun l6 q_l6 h=>IW gb J J J J lr J J (Y J) (Y J) q_l6 fun l7 c4=>eZ 0 oO J<|oj<|zz q6 J (BQ _ _ _) J (Y J) (Uz (Nw (Y J)))<|aY<|ay<|ap<|au<|Q J ?_;refine T (eG (Y J) hI)<|dC J<|aY<|aP<|aG<|bK<|bK<|aP ?_;exact aR (aD (ih (IntKind.i64.wrap (i+(1:Int))) ({out with Tables:=l6}:dg) l7 c4 h) (bf J))
 ·exact d7<|aH<|aH<|cF<|ap<|Z<|gk<|T (CR (q:=fX) (y:=out) xz J J J J (.tail _ (.tail _ (.head _))) (fun _ _ _ ho h=>IE (Gv ho (.head _)) h) (Y J))<|bu<|be xz ah J<|aV 2 J<|cK<|aG<|aG<|so h▸fT J xz J J J

def ta v{R}(h:d5 v=some R):bY aU 57 [tD ae v] (gM R):=by
 refine co Tryz.func57 J<|Z<|bO J<|ca<|bB<|aE<|bg cY bC cj J<|bB<|am<|Z<|bP J<|aC J<|gp h J (fun h=>?_) (fun h=>?_)
 ·exact Z<|bn an J<|T (bM an jg aL J)<|T (uu Iw (Y J) (Y J))<|aM J<|bT<|so h▸av J J
 ·refine Z<|bP J<|aC J<|gp h J (fun h=>?_) (fun h=>?_)
  ·refine Z<|bg rY jo hU J<|bP J<|Q J<|aw J (cZ k7 eH J J)<|aw J (cN EL J J)<|aw J (fun H=>LS (bG J H) hS)<|dv J<|Q J<|aw J (cZ fC cE J J)<|aw J (cN wd J J)<|aw J (fV J)<|aw J (mJ J)<|dB J J J J (fun H=>ic fC cE J J)<|dB J J J J (fun H=>cJ wd J J (bG J H))<|dB J J J J (fun H=>iK (bG J H) hI)<|aw J (fun H=>nW (bG J H) (fun M=>(bG J (nC H (pQ M)))))<|dv J<|aM J ?_;exact bT<|so h▸av J J
  ·refine Z<|bP J<|aC J<|gp h J (fun h=>?_) (fun h=>?_)
   ·exact Z<|bg rY jo hU J<|bP J<|Q J<|aw J (cZ k7 eH J J)<|aw J (cN EL J J)<|aw J (fun H=>LS (bG J H) hS)<|dv J<|aM J<|bT<|so h▸av J J
   ·refine Z<|bP J<|aC J<|gp h J (fun h=>?_) (fun h=>?_)
    ·exact Z<|bg fC cE wd J<|bP J<|Q J<|aw J (cZ rY jo J J)<|aw J (cN hU J J)<|aw J (fV J)<|dv J<|Q J<|aw J (cZ k7 eH J J)<|aw J (cN EL J J)<|aw J (fun H=>ur yJ (bG J H))<|aw J (fun H=>jm (bG J H) hI)<|dv J<|aM J<|bT<|so h▸av J J
    ·exact bc<|ay<|ap<|Z<|bg cY bC cj J<|bP J<|Q J<|aw J (cZ k7 eH J J)<|aw J (cN EL J J)<|aw J (fun H=>LS (bG J H) hS)<|dv J<|aM J<|so h▸av J J

end Go.Proofs.YtpgjgkdpeagjbaaGreatDoor

