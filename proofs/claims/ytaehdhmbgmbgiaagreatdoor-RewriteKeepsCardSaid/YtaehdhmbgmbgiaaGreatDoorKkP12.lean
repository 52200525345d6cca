import Derived.Test.YtaehdhmbgmbgiaaGreatDoorKkT
import Derived.Test.YtaehdhmbgmbgiaaGreatDoorKkP11
set_option linter.all false
namespace Go.Proofs.YtaehdhmbgmbgiaaGreatDoor
open Go Tryz
set_option maxRecDepth 100000
def ac8 a1 b{R}(h:mD a1 b=some R):bZ aP 275 [Q rS a1,Q rS b] (bS R):=by
 exact cx func275 Y<|aQ<|bU<|bI<|aD Y<|bj Y<|T (acw func276 (by kernel_rfl) (by kernel_rfl) (by kernel_rfl) (by kernel_rfl) (J Y) (J Y))<|bf Y<|so h▸aM Y Y
def ac9 a1 b{R}(h:xx a1 b=some R):bZ aP 273 [Q rS a1,Q rS b] (bS R):=by
 exact cx func273 Y<|aQ<|bU<|bI<|aD Y<|bj Y<|cC h ajB (ac8 _ _) (bN Y) fun r h=>bf Y<|so h▸aM Y Y
def ade a1 b{R}(h:q6 a1 b=some R):bZ aP 261 [Q ah a1,Q ah b] (bS R):=by
 refine cx func261 Y<|aQ<|cg Y<|cg Y<|bU<|bI<|bc<|bq aT Y<|cC h Xh (Kf _) (bN Y) fun r h=>T (jj (J Y))<|bj Y<|cj h fun t r_ h=>co Y (fun hg=>np aT Y Y) ?_;obtain⟨r1,g_,s_⟩:=og r_;have k_:=fun H=>(g_ H).1;refine co Y (fun hg=>bG Xh (Kf _ (k_ hg)) ⟨(db Y hg),Z⟩)<|co Y (yH Y)<|T (nt (J Y) (fun H=>(db Y (Ea H))) (fun H=>(g_ H).2) s_)<|cn h Y (fun h=>?_) (fun h=>?_)
 ·exact aQ<|dd<|am<|so h▸aM Y Y
 ·refine iq<|aC<|cj h fun r2 d_ h=>cj h fun r3 v_ h=>cj h fun r4 x_ h=>cj h fun r5 O_ h=>?_;refine nQ (ts:=[_,_,_,_,_,_,_,_,_,_,_,_,_,_,_,_,_,_]) mixed Y Y
   ⟨oq 2 Y Y (mW kZ eg Y Y),
   ⟨fm 0 cz Y Y,
   ⟨oq 3 Y Y (mW kZ eg Y Y),
   ⟨fm 2 cz Y Y,
   ⟨dX 14 1 16 3 Y Y Y (bG afJ (WI _ _ d_) ⟨(J Y),(J Y),Z⟩),
   ⟨oq 2 Y Y (mW ru jX Y Y),
   ⟨fm 5 PC Y Y,
   ⟨oq 3 Y Y (mW ru jX Y Y),
   ⟨fm 7 PC Y Y,
   ⟨dX 19 6 21 8 Y Y Y (bG afI (WH _ _ v_) ⟨(J Y),(J Y),Z⟩),
   ⟨oq 2 Y Y (mW Ah pj Y Y),
   ⟨fm 10 XU Y Y,
   ⟨oq 3 Y Y (mW Ah pj Y Y),
   ⟨fm 12 XU Y Y,
   ⟨dX 24 11 26 13 Y Y Y (bG ajC (ac9 _ _ x_) ⟨(J Y),(J Y),Z⟩),
   ⟨Kz 17 4 22 9 27 14 Y Y Y Y (aK (r:=cM) (ys:=[r2,r3,r4]) (xs:=[.tmp 17,.tmp 22,.tmp 27]) iG cz Y Y Y Y Y ⟨(J Y),(J Y),(J Y),Z⟩),
   ⟨dy 28 15 Y Y (bG ah6 (UY _ O_) ⟨(J Y),Z⟩),
   ⟨dy 29 16 Y Y (Aj Y),
   Z⟩⟩⟩⟩⟩⟩⟩⟩⟩⟩⟩⟩⟩⟩⟩⟩⟩⟩ ?_
  exact aw<|jm<|so h▸aM Y Y
def WF a1 b is1{R}(h:wh a1 b is1=some R):bZ aP 208 [Q ah a1,Q ah b,(eD aP Rr nG (fun(x:Int)=>is1 x))] (tT [Q ah R.1,bS R.2]):=by
 refine cx func208 Y<|aQ<|cg Y<|cg Y<|ax aT bK Y fun b1=>bU<|bI<|bc<|bq aT Y<|bq aT Y<|T (aK (r:=ah) (ys:=[a1,b]) (xs:=[.tmp 10,.tmp 11]) li aT Y Y Y Y Y ⟨(J Y),(J Y),Z⟩)<|cC h afx (Ww _) (bN Y) fun r h=>aS Y<|aD Y<|gw Y ?_;refine cn h Y (fun h=>?_) (fun h=>?_)
 ·exact aQ<|T (bW aT wu bK Y)<|bj Y<|aW aT af Y<|bf Y<|am<|aF 6 Y<|so h▸br Y Y ⟨aU aT Y Y Y,aL Y,Z⟩
 ·refine iq<|aQ<|bX kZ eg cz Y<|dA Y<|bj Y<|co Y (gU kZ eg Y Y)<|co Y (gK cz Y Y)<|co Y (qT Y)<|py Y<|aS Y<|aC<|an<|aQ<|bX kZ eg cz Y<|dA Y<|bj Y<|co Y (gU kZ eg Y Y) ?_;refine co Y (gK cz Y Y)<|co Y (qT Y)<|py Y<|bj Y<|co Y (fa Y)<|co Y (yH Y)<|co Y (F8 Y)<|kS Y Y Y Y (fun hg=>mW kZ eg Y Y)<|kS Y Y Y Y (fun hg=>gO cz Y Y (db Y hg))<|kS Y Y Y Y (fun hg=>mW kZ eg Y Y)<|kS Y Y Y Y (fun hg=>gO cz Y Y (db Y hg))<|kS Y Y Y Y (fun hg=>iO (db Y hg) (db Y hg))<|co Y (fun hg=>wo (db Y hg) (fun H=>(db Y (G3 hg H))))<|py Y<|aS Y<|px h Y (fun h=>?_) (fun h=>?_)
  ·exact aQ<|T (bW aT wu bK Y)<|aW aT af Y<|dd<|cR<|aF 6 Y<|so h▸br Y Y ⟨aU aT Y Y Y,aL Y,Z⟩
  ·refine aD Y<|aS Y<|px h Y (fun h=>?_) (fun h=>?_)
   ·exact aQ<|cC h abv QE trivial fun r1 h=>aW aT af Y<|dd<|cR<|aF 6 Y<|so h▸br Y Y ⟨aU aT Y Y Y,aL Y,Z⟩
   ·exact bO<|bt<|aw<|aD Y<|bq aT Y<|bq aT Y<|cC h ajJ (ade _ _) (bN Y) fun r2 h=>cj h fun r3 v_ h=>T (hZ (args:=(fun(x:Int)=>[Q cM x])) (res:=F4) (f:=(fun(x:Int)=>is1 x)) (x:=((r2):Int)) (J Y) v_ ⟨(J Y),Z⟩)<|cC h Xg (Ke _) (bN Y) fun r4 h=>aW aT af Y<|dd<|aF 6 Y<|so h▸br Y Y ⟨aU aT Y Y Y,aL Y,Z⟩
def adE c{R}(h:Ga c=some R):bZ aP 209 [bS c] (iF R):=by
 exact cx func209 Y<|aQ<|ck<|bI<|aD Y<|T (jk (J Y) hI)<|bf Y<|so h▸aM Y Y
def QD a1 b{R}(h:rW a1 b=some R):bZ aP 151 [Q ah a1,Q ah b] (tT [Q ah R.1,bS R.2]):=by
 exact cx func151 Y<|aQ<|cg Y<|cg Y<|ax aT bK Y fun b1=>bU<|bI<|aQ<|bq aT Y<|bq aT Y<|cC h afG (WF _ _ _) ⟨(J Y),(J Y),(A3 aj7 fun x y h=>adE _ h),Z⟩ fun r h=>bL Y Y<|bL Y Y<|aW aT af Y<|aA 4 Y<|bf Y<|so h▸br Y Y ⟨aU aT Y Y Y,aL Y,Z⟩
def adD do1 a1 x{R}(h:qJ do1 a1 x=some R):bZ aP 210 [Q ah a1,Q ah x,bH (rT ((eD aP F5 yG (fun(x:ac)=>do1 x)))) ()] (tT [Q ah R.1,bS R.2]):=by
 exact cx func210 Y<|aQ<|cg Y<|cg Y<|ax aT bK Y fun b=>bU<|bI<|aQ<|T (yZ aiJ (J Y))<|bq aT Y<|cj h fun r h_ h=>T (hZ (args:=F5) (res:=F6) (f:=(fun(x:ac)=>do1 x)) (x:=((a1):ac)) (J Y) h_ ⟨(J Y),Z⟩)<|bL Y Y<|bL Y Y<|aW aT af Y<|aA 5 Y<|bf Y<|so h▸br Y Y ⟨aU aT Y Y Y,aL Y,Z⟩
def WO do1{R}(h:Fu do1=some R):bZ aP 152 [(eD aP F5 yG (fun(x:ac)=>do1 x))] ((eD aP u7 yG (fun(x:ac×ac)=>R x.1 x.2))):=by
 exact cx func152 Y<|aQ<|T (JT (J Y))<|T (bu hV)<|bI<|aQ<|T ((show cu _ _ _ _ ((eD aP u7 yG (fun(x:ac×ac)=>(qJ do1) x.1 x.2)))from kN (cts:=[bH (rT ((eD aP F5 yG (fun(x:ac)=>do1 x)))) ()]) (caps:=[.tmp 1]) aj6 ⟨(J Y),Z⟩ (fun x y h=>adD _ _ _ h)))<|bf Y<|so h▸aM Y Y
def Mk n{R}(h:sZ n=some R):bZ aP 92 [bS n] (Q ah R):=by
 exact cx func92 Y<|aQ<|ax aT bK Y fun b=>bI<|aD Y<|T (bW (y:=(⟨2,n,0,[]⟩:ac)) aT wu bK (⟨_,_,_,_,_,Y,sd,Y,hI,⟨_,_,_,_,_,Y,ul,Y,(J Y),Y⟩⟩))<|aW aT af Y<|aA 2 Y<|cX<|so h▸iM Y aT Y Y Y
def J0 kind l{R}(h:uT kind l=some R):bZ aP 202 [bS kind,cy (ah) l] (bS R):=by
 refine cx func202 Y<|aQ<|bU<|bI<|aQ<|bU<|bI<|bc<|bj Y<|ca li Y<|T (bQ hI)<|bI<|an<|bm (k:=8) Y fun hN=>bM ?_;refine aI (jP (ay:=fun ls i e=>(l.drop i=ls)/\nW kind ls e=some R) (Of:=fun _ i e=>[]) (Gf:=fun _ i e=>[(0,bS kind),(5,bS e),(8,cy (ah) l),(9,iQ l),(10,bS (i:Int))]) (fun i e h=>?_) (fun e1 tl ih i e h=>?_) l 0 0 ⟨Y,h⟩) (bA Y)
 ·obtain⟨V,h⟩:=h;exact dq V Y<|aw<|aD Y<|bf Y<|so h▸aM Y Y
 ·obtain⟨V,h⟩:=h;refine dp V Y<|aC<|an<|aQ<|d8 li aT Y (de V)<|ax aT bK Y fun b=>aW aT af Y<|aA 7 Y<|bI<|bc ?_;refine bq aT Y<|cC h abk (Mm _) (bN Y) fun r h=>gw Y<|cn h Y (fun h=>?_) (fun h=>?_)
  ·exact aQ<|dd<|am<|cR<|am<|cR<|so h▸aM Y Y
  ·refine iq<|aQ<|bX kZ eg cz Y<|gw Y<|bj Y<|bk Y (gU kZ eg Y Y)<|bk Y (gK cz Y Y)<|bk Y (fa Y)<|bk Y (fun hg=>iO (db Y hg) (db Y hg))<|i9 Y<|cn h Y (fun h=>?_) (fun h=>?_)
   ·refine aG<|bU<|bD<|cV V hN Y ?_;exact bg (aI (ih (i+1) 2 ⟨cJ V,h⟩) (bA Y))
   ·refine bO<|cV V hN Y ?_;exact bg (aI (ih (i+1) e ⟨cJ V,h⟩) (bA Y))
def JZ a1 b to1{R}(h:xk a1 b to1=some R):bZ aP 214 [Q ah a1,Q ah b,(eD aP (fun(x:Int×Int)=>[bS x.1,bS x.2]) (fun(x:Int×Bool)=>tT [bS x.1,iF x.2]) (fun(x:Int×Int)=>to1 x.1 x.2))] (tT [Q ah R.1,bS R.2]):=by
 refine cx func214 Y<|aQ<|cg Y<|cg Y<|ax aT bK Y fun b1=>bU<|bI<|bc<|bq aT Y<|bq aT Y<|T (aK (r:=ah) (ys:=[a1,b]) (xs:=[.tmp 11,.tmp 12]) li aT Y Y Y Y Y ⟨(J Y),(J Y),Z⟩)<|cC h Xe (J0 _ _) (bN Y) fun r h=>aS Y<|aD Y<|gw Y ?_;refine cn h Y (fun h=>?_) (fun h=>?_)
 ·exact aQ<|T (bW aT wu bK Y)<|bj Y<|aW aT af Y<|bf Y<|am<|aF 6 Y<|so h▸br Y Y ⟨aU aT Y Y Y,aL Y,Z⟩
 ·refine iq<|bc<|bX kZ eg cz Y<|dA Y<|bj Y<|co Y (gU kZ eg Y Y)<|co Y (gK cz Y Y)<|co Y (qT Y)<|py Y<|cn h Y (fun h=>?_) (fun h=>?_)
  ·exact aQ<|cC h abv QE trivial fun r1 h=>aW aT af Y<|dd<|am<|aF 6 Y<|so h▸br Y Y ⟨aU aT Y Y Y,aL Y,Z⟩
  ·refine iq<|aD Y<|bX ru jX PC Y<|bX ru jX PC Y<|cj h fun r2 d_ h=>T (hZ (args:=(fun(x:Int×Int)=>[Q cM x.1,Q cM x.2])) (res:=(fun(x:Int×Bool)=>tT [Q cM x.1,Q rB x.2])) (f:=(fun(x:Int×Int)=>to1 x.1 x.2)) (x:=((a1.N,b.N):Int×Int)) (J Y) d_ ⟨(J Y),(J Y),Z⟩)<|bj Y<|bL Y Y<|bL Y Y<|iH Y<|aS Y<|bc<|bj Y<|T (jj (J Y))<|bD ?_;refine aw<|px h Y (fun h=>?_) (fun h=>?_)
   ·exact aQ<|T (bW aT wu bK Y)<|aW aT af Y<|dd<|am<|aF 6 Y<|so h▸br Y Y ⟨aU aT Y Y Y,aL Y,Z⟩
   ·exact iq<|aD Y<|cC h abi (Mk _) (bN Y) fun r3 h=>aW aT af Y<|dd<|aF 6 Y<|so h▸br Y Y ⟨aU aT Y Y Y,aL Y,Z⟩
def adz a1 b{R}(h:uU a1 b=some R):bZ aP 216 [bS a1,bS b] (tT [bS R.1,iF R.2]):=by
 refine cx func216 Y<|aQ<|bU<|ck<|bI<|aD Y<|bj Y<|T (fq (J Y) (J Y))<|aS Y<|aD Y<|bj Y<|bj Y<|T (HE (J Y) (J Y))<|bj Y<|bj Y<|T (HE (J Y) (J Y)) ?_;exact T (HI (J Y) (J Y))<|T (iZ (J Y) hI)<|iH Y<|bf Y<|so h▸dM Y Y Y
def WL a1 b{R}(h:AS a1 b=some R):bZ aP 157 [Q ah a1,Q ah b] (tT [Q ah R.1,bS R.2]):=by
 exact cx func157 Y<|aQ<|cg Y<|cg Y<|ax aT bK Y fun b1=>bU<|bI<|aQ<|bq aT Y<|bq aT Y<|cC h Xd (JZ _ _ _) ⟨(J Y),(J Y),(A3 aj2 fun x y h=>adz _ _ h),Z⟩ fun r h=>bL Y Y<|bL Y Y<|aW aT af Y<|aA 4 Y<|bf Y<|so h▸br Y Y ⟨aU aT Y Y Y,aL Y,Z⟩
def ad9 a1{R}(h:DP a1=some R):bZ aP 153 [Q ah a1] (tT [Q ah R.1,bS R.2]):=by
 refine cx func153 Y<|aQ<|cg Y<|ax aT bK Y fun b=>bU<|bI<|aC<|cj h fun r h_ h=>cj h fun r1 a_ h=>?_;refine Cb 5 (ts:=[Q ah r,Q ah a1,tT [Q ah r1.1,bS r1.2],Q ah r1.1,bS r1.2]) mixed Y Y Y
  ⟨Q6 Y (bG abi (Mk _ h_) ⟨hI,Z⟩),
  ⟨oq 1 Y Y (np aT Y Y),
  ⟨dX 4 0 5 1 Y Y Y (bG afN (WL _ _ a_) ⟨(J Y),(J Y),Z⟩),
  ⟨dy 6 2 Y Y (yi Y Y),
  ⟨dy 6 2 Y Y (yi Y Y),
  Z⟩⟩⟩⟩⟩ ?_
 exact aW aT af Y<|aA 2 Y<|bf Y<|so h▸br Y Y ⟨aU aT Y Y Y,aL Y,Z⟩
def adc v{R}(h:Cs v=some R):bZ aP 262 [Q ah v] (bS R):=by
 refine cx func262 Y<|aQ<|cg Y<|bU<|bI<|bc<|bX kZ eg cz Y<|dA Y<|cn h Y (fun h=>?_) (fun h=>?_)
 ·exact aQ<|dd<|am<|so h▸aM Y Y
 ·exact iq<|aQ<|bX ru jX PC Y<|T (Fl hI (J Y))<|bf Y<|so h▸aM Y Y
def Qx to1 l{R}(h:rR to1 l=some R):bZ aP 211 [(eD aP (fun(x:(List Int))=>[oA x]) D3 (fun(x:(List Int))=>to1 x)),cy (ah) l] (tT [Q ah R.1,bS R.2]):=by
 refine cx func211 Y<|aQ<|ax aT bK Y fun b=>bU<|bI<|bc<|bj Y<|cC h afx (Ww _) (bN Y) fun r h=>aS Y<|aD Y<|gw Y<|cn h Y (fun h=>?_) (fun h=>?_)
 ·exact aQ<|T (bW aT wu bK Y)<|bj Y<|aW aT af Y<|bf Y<|am<|aF 4 Y<|so h▸br Y Y ⟨aU aT Y Y Y,aL Y,Z⟩
 ·refine iq<|aQ<|bJ false cM 3<|T (bu tK)<|bI<|bc<|bj Y<|ca li Y<|T (bQ hI)<|bI<|an<|bm (k:=16) Y fun hN=>bM ?_;refine aI (qe (ay:=fun ls i n l1 c x=>(l.drop i=ls)/\pJ to1 ls n x=some R) (Of:=fun _ i n l1 c x=>[eV cM 3 l1 c n,bx ah 72 b x]) (Gf:=fun _ i n l1 c x=>[(0,(eD aP (fun(x:(List Int))=>[oA x]) D3 (fun(x:(List Int))=>to1 x))),(4,tV (aE b 0)),(7,rr l1 c n),(16,cy (ah) l),(17,iQ l),(18,bS (i:Int))]) (fun i n l1 c x h=>?_) (fun e tl ih i n l1 c x h=>?_) l 0 Hj none 0 tL ⟨Y,h⟩) (bA Y)
  ·obtain⟨V,h⟩:=h;refine dq V Y<|aw<|aD Y<|bj Y<|gk<|gW 7 Y<|gW 33 Y<|cj h fun r1 a_ h=>T (hZ (args:=(fun(x:(List Int))=>[Q Bc x])) (res:=abU) (f:=(fun(x:(List Int))=>to1 x)) (x:=((n):(List Int))) (J Y) a_ ⟨(kX (J Y)),Z⟩)<|cj h fun e1 Y' h=>T (YV (r:=tE ah 3) (x:=gv0) gm0 gr0 (rf underlying282 aT Y ai6 (J Y) Y')) ?_;exact bq aT Y<|bo<|aW aT af Y<|dd<|aF 4 Y<|aO<|so h▸br Y Y ⟨aU aT Y Y Y,aL Y,Z⟩
  ·obtain⟨V,h⟩:=h;refine dp V Y<|aC<|an<|aQ<|d8 li aT Y (de V)<|ax aT bK Y fun b1=>aW aT af Y<|aA 9 Y<|bI<|bc ?_;refine bX kZ eg cz Y<|T (oI (J Y) hI)<|cn h Y (fun h=>?_) (fun h=>?_)
   ·exact aQ<|T (bW aT wu bK Y)<|bo<|aW aT af Y<|dd<|am<|cR<|am<|cR<|aF 4 Y<|aO<|so h▸br Y Y ⟨aU aT Y Y Y,aL Y,Z⟩
   ·refine iq<|aG<|bj Y<|bq aT Y<|cC h ajI (adc _) (bN Y) fun r2 h=>T (aK (r:=cM) (ys:=[r2]) (xs:=[.tmp 28]) iG cz Y Y Y Y Y ⟨(J Y),Z⟩)<|cj h fun n1 q_n1 h=>cD cz Y Y Y Y iG Y Y (J Y) (J Y) q_n1 fun l2 c1=>iH Y<|bD<|cV V hN Y ?_;exact bg (aI (ih (i+1) n1 l2 c1 x ⟨cJ V,h⟩) (bA Y))
def adC l{R}(h:IA l=some R):bZ aP 212 [oA l] (bS R):=by
 exact cx func212 Y<|aQ<|bU<|bI<|aD Y<|cj h fun e i_ h=>T (bn iG cz Y (J Y) hI i_)<|bq cz Y<|T (fq hI (J Y))<|bf Y<|so h▸aM Y Y
def WN a1{R}(h:wi a1=some R):bZ aP 154 [Q ah a1] (tT [Q ah R.1,bS R.2]):=by
 exact cx func154 Y<|aQ<|cg Y<|ax aT bK Y fun b=>bU<|bI<|aQ<|bq aT Y<|T (aK (r:=ah) (ys:=[a1]) (xs:=[.tmp 4]) li aT Y Y Y Y Y ⟨(J Y),Z⟩)<|cC h abo (Qx _ _) ⟨(A3 aj5 fun x y h=>adC _ h),(J Y),Z⟩ fun r h=>bL Y Y<|bL Y Y<|aW aT af Y<|aA 2 Y<|bf Y<|so h▸br Y Y ⟨aU aT Y Y Y,aL Y,Z⟩
def adB is1 a1 x{R}(h:sJ is1 a1 x=some R):bZ aP 213 [Q ah a1,Q ah x,bH rB is1] (tT [Q ah R.1,bS R.2]):=by
 exact cx func213 Y<|aQ<|cg Y<|cg Y<|ax aT bK Y fun b=>bU<|bI<|aQ<|bX kZ eg cz Y<|dA Y<|bq Na Y<|T (V2 NX (J Y) (J Y))<|cC h Xg (Ke _) (bN Y) fun r h=>aW aT af Y<|aA 5 Y<|dd<|so h▸br Y Y ⟨aU aT Y Y Y,aL Y,Z⟩
def WM is1{R}(h:HW is1=some R):bZ aP 155 [iF is1] ((eD aP u7 yG (fun(x:ac×ac)=>R x.1 x.2))):=by
 exact cx func155 Y<|aQ<|cg Y<|T (bu hV)<|bI<|aQ<|T ((show cu _ _ _ _ ((eD aP u7 yG (fun(x:ac×ac)=>(sJ is1) x.1 x.2)))from kN (cts:=[bH rB is1]) (caps:=[.tmp 1]) aj4 ⟨(J Y),Z⟩ (fun x y h=>adB _ _ _ h)))<|bf Y<|so h▸aM Y Y
def adA a1 b{R}(h:xl a1 b=some R):bZ aP 215 [bS a1,bS b] (tT [bS R.1,iF R.2]):=by
 refine cx func215 Y<|aQ<|bU<|ck<|bI<|aD Y<|bj Y<|T (mC (J Y) (J Y))<|aS Y<|aD Y<|bj Y<|bj Y<|T (HE (J Y) (J Y))<|bj Y<|bj Y<|T (HE (J Y) (J Y)) ?_;exact T (HI (J Y) (J Y))<|T (iZ (J Y) hI)<|iH Y<|bf Y<|so h▸dM Y Y Y
def ad8 a1 b{R}(h:Ic a1 b=some R):bZ aP 156 [Q ah a1,Q ah b] (tT [Q ah R.1,bS R.2]):=by
 exact cx func156 Y<|aQ<|cg Y<|cg Y<|ax aT bK Y fun b1=>bU<|bI<|aQ<|bq aT Y<|bq aT Y<|cC h Xd (JZ _ _ _) ⟨(J Y),(J Y),(A3 aj3 fun x y h=>adA _ _ h),Z⟩ fun r h=>bL Y Y<|bL Y Y<|aW aT af Y<|aA 4 Y<|bf Y<|so h▸br Y Y ⟨aU aT Y Y Y,aL Y,Z⟩
def adx p y{R}(h:xA p y=some R):bZ aP 218 [Q Pr p,Q Pr y] (tT [Q Pr R.1,Q Pr R.2]):=by
 refine cx func218 Y<|aQ<|bU<|bU<|bI<|aD Y<|T (HI (J Y) hI)<|aS Y<|aD Y<|T (HF (J Y) hI (by decide))<|aS Y<|aD Y ?_;refine T (HI (J Y) hI)<|aS Y<|aD Y<|T (HF (J Y) hI (by decide))<|aS Y<|aD Y<|bj Y<|T (Fl (J Y) (J Y))<|aS Y<|aD Y<|bj Y<|T (Fl (J Y) (J Y)) ?_;refine bj Y<|T (HF (J Y) hI (by decide))<|T (mC (J Y) (J Y))<|aS Y<|aD Y<|T (HI (J Y) hI)<|aS Y<|aD Y<|T (HF (J Y) hI (by decide))<|aS Y<|aD Y<|bj Y ?_;refine bj Y<|T (Fl (J Y) (J Y))<|T (mC (J Y) (J Y))<|aS Y<|aD Y<|bj Y<|T (Fl (J Y) (J Y))<|bj Y<|T (mC (J Y) (J Y))<|bj Y<|T (HF (J Y) hI (by decide))<|T (mC (J Y) (J Y))<|aS Y<|aD Y<|bj Y<|T (Fl (J Y) (J Y)) ?_;exact bf Y<|so h▸dM Y Y Y
def JY n{R}(h:uD n=some R):bZ aP 219 [bS n] (Q Pr R):=by
 refine cx func219 Y<|aQ<|bU<|bI<|bc<|bj Y<|T (jk (J Y) hI)<|cn h Y (fun h=>?_) (fun h=>?_)
 ·exact aD Y<|T (ya FO FQ (J Y))<|T (HG (J Y))<|bf Y<|am<|so h▸aM Y Y
 ·exact iq<|aD Y<|T (ya FO FQ (J Y))<|bf Y<|so h▸aM Y Y
def WE u below{R}(h:vR u below=some R):bZ aP 220 [Q Pr u,iF below] (tT [bS R.1,iF R.2]):=by
 refine cx func220 Y<|aQ<|bU<|ck<|bI<|bc<|bj Y<|cn h Y (fun h=>?_) (fun h=>?_)
 ·exact aD Y<|T (HG (J Y))<|T (ya FQ FO (J Y))<|bj Y<|T (sv (J Y) hI)<|iH Y<|bf Y<|am<|so h▸dM Y Y Y
 ·exact iq<|aD Y<|T (ya FQ FO (J Y))<|bj Y<|T (sv (J Y) hI)<|iH Y<|bf Y<|so h▸dM Y Y Y
def ady a1 b{R}(h:uV a1 b=some R):bZ aP 217 [bS a1,bS b] (tT [bS R.1,iF R.2]):=by
 refine cx func217 Y<|aQ<|bU<|ck<|bI<|aD Y<|cC h Xc (JY _) (bN Y) fun r h=>bj Y<|cC h Xc (JY _) (bN Y) fun r1 h=>cC h aj0 (adx _ _) (bN Y) fun r2 h=>bj Y<|bL Y Y<|bL Y Y<|iH Y<|aS Y ?_;refine aD Y<|bj Y<|T (jk (J Y) hI)<|bj Y<|T (jk (J Y) hI)<|T (V0 NX (J Y) (J Y))<|cC h afF (WE _ _) (bN Y) fun r3 h=>bj Y<|bL Y Y<|bL Y Y<|iH Y<|aS Y<|aD Y<|bj Y<|bj Y<|bk Y (fa Y)<|bk Y (qT Y) ?_;exact i9 Y<|iH Y<|bf Y<|so h▸dM Y Y Y
def ad7 a1 b{R}(h:Ia a1 b=some R):bZ aP 158 [Q ah a1,Q ah b] (tT [Q ah R.1,bS R.2]):=by
 exact cx func158 Y<|aQ<|cg Y<|cg Y<|ax aT bK Y fun b1=>bU<|bI<|aQ<|bq aT Y<|bq aT Y<|cC h Xd (JZ _ _ _) ⟨(J Y),(J Y),(A3 aj1 fun x y h=>ady _ _ h),Z⟩ fun r h=>bL Y Y<|bL Y Y<|aW aT af Y<|aA 4 Y<|bf Y<|so h▸br Y Y ⟨aU aT Y Y Y,aL Y,Z⟩
