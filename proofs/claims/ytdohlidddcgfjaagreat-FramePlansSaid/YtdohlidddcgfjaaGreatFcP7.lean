/- cE of this claim: P7. -/
import Derived.Test.YtdohlidddcgfjaaGreatFcT
import Derived.Test.YtdohlidddcgfjaaGreatFcP6
set_option linter.all false
namespace Go.Proofs.YtdohlidddcgfjaaGreat
open Go
set_option maxRecDepth 100000

def Xh nodes{R}(h:jV nodes=some R):cX bd 82 [em (aM) nodes] (tT [em (nq) R.1,bH R.2.1,bH R.2.2]):=by
 refine dK Tryz.func82 J<|d<|fO (nq)<|ca<|ca<|bu<|FF<|aS<|Q J<|bI j4 J<|s (fH (D J) hI)<|Q J<|aD J (bX J)<|aD J (gp j4 J)<|aD J (fun Y=>dD (bl J Y) hI)<|dG J<|bW h J (fun h=>?_) (fun h=>?_)
 ·exact d<|fO (nq)<|ca<|eg<|af<|rx<|so h▸zp J J J J
 ·refine fN<|ax J<|s (ee (r:=rH bQ [(1,.slice none 0 0),(2,.slice none 0 0)]) (y:=(⟨nodes,[],[],Qe,[],[],[]⟩:aq)) Zj ZM (zH SS ⟨J,J,aZ⟩) (⟨_,_,_,_,_,J,GE OM J J,J,(D J),J⟩))<|qV (D J) J fun b=>ci true nq 69<|ci false bV 3 ?_;refine(show RG _ _ _ _ [_,_,_] _ from ?_);refine aN J<|d<|eE h abE UV trivial fun r h=>aN J<|d<|ca<|bu<|aP<|FG<|au<|aS<|Q J<|bI j4 J<|s (bT hI) ?_;refine bu ?_;refine PP (aa:=fun wrong ob l c l1 c1=>kc nodes wrong ob=some R) (Of:=fun wrong ob l c l1 c1=>[bx (rH bQ [(1,ay l c ob.kinds.length),(2,ay l1 c1 ob.open_.length)]) 168 b ob,tip nq 69 l c ob.kinds,db bV 3 l1 c1 ob.open_]) (Gf:=fun wrong ob l c l1 c1=>[(0,em (aM) nodes),(5,M (Z b 0)),(7,bH wrong)]) (fun wrong ob l c l1 c1 h=>?_) (fun h2=>?_)
  ·skip
   refine au ?_;refine d5 (aa:=fun wrong1=>m5 ob wrong1=some R) (Of:=fun wrong1=>[bx (rH bQ [(1,ay l c ob.kinds.length),(2,ay l1 c1 ob.open_.length)]) 168 b ob,tip nq 69 l c ob.kinds,db bV 3 l1 c1 ob.open_]) (Gf:=fun wrong1=>[(5,M (Z b 0)),(7,bH wrong1)]) (fun wrong1 h=>?_) (fun K1=>?_)
   ·skip
    refine aS<|Q J<|s (dB (D J) hI)<|bW h J (fun h=>?_) (fun h=>?_)
    ·exact ax J<|fO (nq)<|d6 J<|eg<|af<|rx<|aV<|aV<|aV<|so h▸zp J J J J
    ·refine fN<|d<|ci false nq 69<|s (bU tE)<|bu<|aS<|Q J<|s (aO (D J))<|bh 1 Dz J<|s (nE Tb J (.tail _ (.head _)) (.tail _ (.tail _ (.head _))) (D J))<|s (eS uh (mX (D J)))<|s (bT hI)<|bu<|ak<|PM<|PO 61 J<|bo (k:=61) J fun hN=>bA ?_;refine gW<|dY<|gW<|gW ?_;refine aH (jz (aa:=fun ls i out l2 c2=>(ob.kinds.drop i=ls)/\oM ls out=some R) (Of:=fun _ i out l2 c2=>[db nq 69 l2 c2 out,bx (rH bQ [(1,ay l c ob.kinds.length),(2,ay l1 c1 ob.open_.length)]) 168 b ob,tip nq 69 l c ob.kinds,db bV 3 l1 c1 ob.open_]) (Gf:=fun _ i out l2 c2=>[(10,nO l2 c2 out),(61,em (nq) ob.kinds),(62,kE ob.kinds),(63,bH (i:Int))]) (fun i out l2 c2 h=>?_) (fun e tl ih i out l2 c2 h=>?_) ob.kinds 0 V9 none 0 ⟨J,h⟩) (aX J)
     ·obtain⟨V,h⟩:=h
      refine ez V J<|au<|ax J<|d6 J<|ca<|eg<|rx<|dq ?_;exact bP 10 J<|bP 73 J<|bP 2 J<|eW 2 J<|aV<|aV<|aV<|aV<|so h▸zp J J J J
     ·obtain⟨V,h⟩:=h
      refine ew V J<|aP<|ak<|d<|dg uh cu J (dJ V)<|aN J<|aj<|Q J<|Q J<|ot h Sm (Kx _) (cy J) fun r1 h l3 c3=>?_;refine ic<|fT 69 J<|s (aI (r:=vG) (ys:=[r1]) (xs:=[.tmp 69]) uh cu J J J J J ⟨(mX (D J)),aZ⟩)<|bY<|bR h fun out1 q_out1 h=>bD cu J J J J uh J J (D J) (D J) q_out1 fun l4 c4=>d6 J<|aJ<|dd V hN J<|am<|aV ?_;exact aU (aH (ih (i+1) out1 l4 c4 ⟨da V,h⟩) (aX J))
   ·skip
    refine ax J<|s (fH (D J) hI)<|Q J<|ae J (bX J)<|ae J (fun Y=>aO (bl J Y))<|ae J (fun Y=>cr (n:=2) tS J (bl J Y) J)<|ae J (fun Y=>eQ cu J (.head _) (bl J Y))<|ae J (fun Y=>ir df (.tail _ (.tail _ (.head _))) (bl J Y))<|ae J (se J)<|cm J<|bW h J (fun h=>?_) (fun h=>?_)
    ·refine aj<|Q J<|bI j4 J<|s (dP (D J) hI)<|d6 J<|aJ ?_;exact bE (K1 (IntKind.i64.wrap ((nodes.length:Int)-(1:Int))) h) (aX J)
    ·refine bc ?_;exact bE (K1 wrong h) (aX J)
  ·skip
   refine bo (k:=25) J fun hN1=>bA<|dY<|kV ?_;refine aH (Fy (aa:=fun ls1 i1 wrong2 ob1 l5 c5 l6 c6=>(nodes.drop i1=ls1)/\fY nodes r ls1 i1 wrong2 ob1=some R) (Of:=fun _ i1 wrong2 ob1 l5 c5 l6 c6=>[bx (rH bQ [(1,ay l5 c5 ob1.kinds.length),(2,ay l6 c6 ob1.open_.length)]) 168 b ob1,tip nq 69 l5 c5 ob1.kinds,db bV 3 l6 c6 ob1.open_]) (Gf:=fun _ i1 wrong2 ob1 l5 c5 l6 c6=>[(0,em (aM) nodes),(5,M (Z b 0)),(6,Zm (fun y:(aq->Unit->Option (Bool×aq))=>qY (fun bb=>fI bd (fun(x:Unit)=>[M (Z bb 0)]) (fx bb) qX y)) (VC .i64) r),(7,bH wrong2),(25,em (aM) nodes),(26,kE nodes),(27,bH (i1:Int))]) (fun i1 wrong2 ob1 l5 c5 l6 c6 h=>?_) (fun e1 tl1 ih1 i1 wrong2 ob1 l5 c5 l6 c6 h=>?_) nodes 0 xD (⟨nodes,[],[],Qe,[],[],[]⟩:aq) none 0 none 0 ⟨J,h⟩) (aX J)
   ·obtain⟨hx1,h⟩:=h
    refine ez hx1 J ?_;exact bE (h2 wrong2 ob1 l5 c5 l6 c6 h) (aX J)
   ·obtain⟨hx1,h⟩:=h
    refine ew hx1 J<|aP<|ak<|ax J<|dg j4 dA J (dJ hx1)<|bz dA ie J fun b1=>d6 J<|bO dA aB J<|bj 9 J<|bu<|aP ?_;refine aj<|Q J<|Q J<|Q J<|aQ ft cB bB J<|s (J5 (γ:=(fun y:(aq->Unit->Option (Bool×aq))=>qY (fun bb=>fI bd (fun(x:Unit)=>[M (Z bb 0)]) (fx bb) AZ y))) (z:=(fun _ _=>none)) Dg (jL iL) YO (fun _ _=>Gx) (D J) (uZ (D J)))<|bR h fun r2 q_r2 h=>br (EffOK.fr2 (EffOK.fr2 (EffOK.fr2 (aE (xs:=[.tmp 32,.tmp 33,.tmp 37]) (ts:=[M (Z b 0),bH (i1:Int),qY (fun bb=>fI bd (fun(x:Unit)=>[M (Z bb 0)]) (fx bb) qX ((uY r e1.Op).getD (fun _ _=>none)))]) (fx b ob1 (sj [(l5,c5),(l6,c6)])) _ J abD (Ye b (sj [(l5,c5),(l6,c6)]) ob1 _ _ q_r2) ⟨(D J),(D J),(D J),aZ⟩ (fun _=>J))))) J fun i2=>?_;refine(show RG _ _ _ _ [_,_,_] ((38,fM r2.1)::_)from ?_);refine s (fG (D J))<|bW h J (fun h=>?_) (fun h=>?_)
    ·refine ax J<|aN J<|cQ<|cn J<|ap<|ap<|bL ?_;exact bE (h2 (i1:Int) r2.2 (i2.h 0).1 (i2.h 0).2 (i2.h 1).1 (i2.h 1).2 h) (aX J)
    ·refine bc<|dd hx1 hN1 J ?_;exact aU (aH (ih1 (i1+1) wrong2 r2.2 (i2.h 0).1 (i2.h 0).2 (i2.h 1).1 (i2.h 1).2 ⟨da hx1,h⟩) (aX J))

def Me p{R}(h:pV p=some R):cX bd 40 [tD gq p] (fM R):=by
 refine dK Tryz.func40 J<|d<|dl J<|bm<|bu<|d<|s (bU (show aY _ _ _ ((mI bd Jc qX (fun(x:Int)=>rU x)))from(Rt acj fun x y h=>Xi _ h)))<|bu<|aS<|aQ nI gV v8 J<|bI rA J<|s (bT hI)<|bu<|ak<|bo (k:=12) J fun hN=>bA ?_;refine aH (eU (aa:=fun ls i=>(p.Frags.drop i=ls)/\oR p ls=some R) (Of:=fun _ i=>[]) (Gf:=fun _ i=>[(1,ck gq p),(3,(mI bd Jc qX (fun(x:Int)=>rU x))),(12,em (cM) p.Frags),(13,kE p.Frags),(14,bH (i:Int))]) (fun i h=>?_) (fun e tl ih i h=>?_) p.Frags 0 ⟨J,h⟩) (aX J)
 ·obtain⟨V,h⟩:=h
  refine ez V J<|au<|d<|aQ nI gV v8 J<|bI rA J<|s (dB (D J) hI)<|Q J<|ae J (bv nI gV J J)<|ae J (bq v8 J J)<|ae J (gp rA J)<|ae J (fun Y=>eY (bl J Y) hI) ?_;exact cm J<|bf J<|so h▸aA J J
 ·obtain⟨V,h⟩:=h
  refine ew V J<|aP<|ak<|d<|dg rA nc J (dJ V)<|bz nc nf J fun b=>bO nc aB J<|bj 5 J<|bu<|d<|qE sN mF J ?_;refine dH qe J<|eE h aci (Xh _) (cy J) fun r h=>Q J<|dz J J<|dz J J<|dz J J<|d6 J<|d6 J<|aN J<|d<|aQ vR oT bB J<|bp J<|Q J<|aD J (bv vR oT J J)<|aD J (bq bB J J)<|aD J (gQ J)<|dG J<|d6 J<|aJ ?_;refine au<|d<|aQ vQ oS bB J<|s (dB (D J) hI)<|Q J<|ae J (bv vQ oS J J)<|ae J (bq bB J J)<|ae J (fun Y=>eY (bl J Y) hI)<|cm J<|Q J<|ae J (bv sM lG J J)<|ae J (bq cu J J)<|ae J (gp df J)<|ae J (fun Y=>eY (bl J Y) hI)<|cm J<|Q J<|bR h fun t q_t h=>ae J (bv sM lG J J)<|ae J (bq cu J J)<|ae J (bX J) ?_
  obtain⟨r1,h1t,h0t⟩:=og q_t
  have q_r1g:=fun H=>(h1t H).1
  refine ae J (fun Y=>cD Yo (L9 _ _ (q_r1g Y)) ⟨(bl J Y),(bl J Y),aZ⟩)<|ae J (uo J)<|s (co (D J) (fun H=>(bl J H)) (fun H=>(h1t H).2) h0t)<|aN J<|ax J<|nP J<|Q J<|aD J (bX J)<|aD J (uo J)<|dG J<|Q J<|aD J (bX J)<|aD J (uo J)<|dG J<|bW h J (fun h=>?_) (fun h=>?_)
  ·exact d<|bm<|bM<|cx<|af<|cx<|so h▸aA J J
  ·refine bc<|dd V hN J ?_;exact aU (aH (ih (i+1) ⟨da V,h⟩) (aX J))

def UO n{R}(h:Bn n=some R):cX bd 154 [tD qc n] (fM R):=by
 exact dK Tryz.func154 J<|d<|bm<|bu<|ax J<|s (dB (D J) hI)<|Q J<|ae J (bX J)<|ae J (fun Y=>eY (bl J Y) hI)<|cm J<|bf J<|so h▸aA J J

def Ug ac f{R}(h:mK ac f=some R):cX bd 248 [em (zY) ac,(mI bd Wb qX (fun(x:(List aC))=>f x))] (bH R):=by
 refine dK Tryz.func248 J<|d<|ca<|bu<|aS<|Q J<|bI AM J<|s (bT hI)<|bu<|ak<|bo (k:=6) J fun hN=>bA ?_;refine aH (eU (aa:=fun ls i=>(ac.drop i=ls)/\iA f ls i=some R) (Of:=fun _ i=>[]) (Gf:=fun _ i=>[(0,em (zY) ac),(1,(mI bd Wb qX (fun(x:(List aC))=>f x))),(7,kE ac),(8,bH (i:Int))]) (fun i h=>?_) (fun e tl ih i h=>?_) ac 0 ⟨J,h⟩) (aX J)
 ·obtain⟨V,h⟩:=h
  exact ez V J<|au<|d<|eg<|so h▸aA J J
 ·obtain⟨V,h⟩:=h
  refine ew V J<|aP<|ak<|ax J<|aN J<|ax J<|Q J<|Q J<|CT AM Js J (dJ V) ?_;refine dH Js J<|bR h fun r q_r h=>s (mO (args:=(fun(x:(List aC))=>[tD zY x])) (res:=AZ) (f:=(fun(x:(List aC))=>f x)) (x:=((e):(List aC))) (D J) q_r ⟨(D J),aZ⟩)<|bW h J (fun h=>?_) (fun h=>?_)
  ·exact ax J<|bf J<|cx<|af<|cx<|so h▸aA J J
  ·refine bc<|dd V hN J ?_;exact aU (aH (ih (i+1) ⟨da V,h⟩) (aX J))

def Uu ac f{R}(h:lx ac f=some R):cX bd 228 [em (zY) ac,(mI bd Wb qX (fun(x:(List aC))=>f x))] (fM R):=by
 exact dK Tryz.func228 J<|d<|bm<|bu<|ax J<|Q J<|eE h aaq (Ug _ _) (cy J) fun r h=>s (dB (D J) hI)<|bf J<|so h▸aA J J

def Uc v{R}(h:yb v=some R):cX bd 258 [tD bF v] (fM R):=by
 exact dK Tryz.func258 J<|d<|dl J<|bm<|bu<|d<|dH dh J<|eE h BQ (tU _) (cy J) fun r h=>nP J<|bf J<|so h▸aA J J

def T8 ac f{R}(h:lM ac f=some R):cX bd 264 [em (bF) ac,(mI bd Qc qX (fun(x:aC)=>f x))] (bH R):=by
 refine dK Tryz.func264 J<|d<|ca<|bu<|aS<|Q J<|bI FK J<|s (bT hI)<|bu<|ak<|bo (k:=6) J fun hN=>bA ?_;refine aH (eU (aa:=fun ls i=>(ac.drop i=ls)/\hY f ls i=some R) (Of:=fun _ i=>[]) (Gf:=fun _ i=>[(0,em (bF) ac),(1,(mI bd Qc qX (fun(x:aC)=>f x))),(7,kE ac),(8,bH (i:Int))]) (fun i h=>?_) (fun e tl ih i h=>?_) ac 0 ⟨J,h⟩) (aX J)
 ·obtain⟨V,h⟩:=h
  exact ez V J<|au<|d<|eg<|so h▸aA J J
 ·obtain⟨V,h⟩:=h
  refine ew V J<|aP<|ak<|ax J<|aN J<|ax J<|Q J<|Q J<|CT FK dh J (dJ V) ?_;refine dH dh J<|bR h fun r q_r h=>s (mO (args:=Qc) (res:=AZ) (f:=(fun(x:aC)=>f x)) (x:=((e):aC)) (D J) q_r ⟨(D J),aZ⟩)<|bW h J (fun h=>?_) (fun h=>?_)
  ·exact ax J<|bf J<|cx<|af<|cx<|so h▸aA J J
  ·refine bc<|dd V hN J ?_;exact aU (aH (ih (i+1) ⟨da V,h⟩) (aX J))

def Ub ac f{R}(h:kH ac f=some R):cX bd 259 [em (bF) ac,(mI bd Qc qX (fun(x:aC)=>f x))] (fM R):=by
 exact dK Tryz.func259 J<|d<|bm<|bu<|ax J<|Q J<|eE h aaf (T8 _ _) (cy J) fun r h=>s (dB (D J) hI)<|bf J<|so h▸aA J J

def Uf r{R}(h:GL r=some R):cX bd 249 [em (bF) r] (fM R):=by
 refine dK Tryz.func249 J<|d<|bm<|bu<|d<|s (bU (show aY _ _ _ ((mI bd Qc qX (fun(x:aC)=>yb x)))from(Rt aaj fun x y h=>Uc _ h)))<|bu<|ax J<|bI FK J<|s (eY (D J) hI)<|Q J<|bR h fun t q_t h=>ae J (bX J)<|ae J (bX J) ?_
 obtain⟨r1,h1t,h0t⟩:=og q_t
 have q_r1g:=fun H=>(h1t H).1
 exact ae J (fun Y=>cD aai (Ub _ _ (q_r1g Y)) ⟨(bl J Y),(bl J Y),aZ⟩)<|ae J (uo J)<|s (co (D J) (fun H=>(bl J H)) (fun H=>(h1t H).2) h0t)<|bf J<|so h▸aA J J

def Us r{R}(h:GO r=some R):cX bd 230 [em (bF) r] (bH R):=by
 refine dK Tryz.func230 J<|d<|ca<|bu<|aS<|Q J<|eE h aap (Uf _) (cy J) fun r1 h=>s (fG (D J))<|bW h J (fun h=>?_) (fun h=>?_)
 ·exact d<|eg<|af<|so h▸aA J J
 ·exact fN<|d<|eg<|so h▸aA J J

def Ut r{R}(h:CX r=some R):cX bd 229 [em (bF) r] (fM R):=by
 exact dK Tryz.func229 J<|d<|bm<|bu<|ax J<|eE h aaF (Us _) (cy J) fun r1 h=>nP J<|bf J<|so h▸aA J J

def UE l{R}(h:G7 l=some R):cX bd 197 [em (zY) l] (fM R):=by
 refine dK Tryz.func197 J<|d<|bm<|bu<|ax J<|bI AM J<|s (dD (D J) hI)<|Q J<|ae J (bX J)<|ae J (gp AM J)<|ae J (fun Y=>eY (bl J Y) hI)<|cm J<|Q J<|bR h fun t q_t h=>ae J (bX J) ?_
 obtain⟨r,h1t,h0t⟩:=og q_t
 have q_rg:=fun H=>(h1t H).1
 exact ae J (fun Y=>cD aaH (Uu _ _ (q_rg Y)) ⟨(bl J Y),(Rt aaG fun x y h=>Ut _ h),aZ⟩)<|ae J (uo J)<|s (co (D J) (fun H=>(bl J H)) (fun H=>(h1t H).2) h0t)<|bf J<|so h▸aA J J

def UN b seq{R}(h:EP b seq=some R):cX bd 155 [tD pD b,tD lA seq] (fM R):=by
 refine dK Tryz.func155 J<|d<|dl J<|bm<|bu<|aS<|Q J<|s (fH (D J) hI)<|Q J<|aD J (bX J)<|aD J (fun Y=>dD (bl J Y) hI)<|dG J<|bW h J (fun h=>?_) (fun h=>?_)
 ·exact d<|bm<|bM<|af<|so h▸aA J J
 ·refine fN<|aS<|aQ Av q7 zF J<|bW h J (fun h=>?_) (fun h=>?_)
  ·exact d<|aQ Aw q8 Lk J<|bI AM J<|bp J<|Q J<|ae J (bv Au q6 J J)<|ae J (bq qf J J)<|ae J (bX J)<|ae J (fun Y=>dP (bl J Y) hI)<|ae J (fun Y=>di (bl J Y) (bl J Y))<|cm J<|bf J<|af<|so h▸aA J J
  ·refine fN<|d<|aQ Au q6 qf J<|bp J<|Q J<|bR h fun t q_t h=>ae J (bv Aw q8 J J)<|ae J (bq Lk J J) ?_
   obtain⟨r,h1t,h0t⟩:=og q_t
   have q_rg:=fun H=>(h1t H).1
   exact ae J (fun Y=>cD aaZ (UE _ (q_rg Y)) ⟨(bl J Y),aZ⟩)<|s (co (D J) (fun H=>(bl J H)) (fun H=>(h1t H).2) h0t)<|bf J<|so h▸aA J J

def Ur a1 b{R}(h:GM a1 b=some R):cX bd 231 [em (bF) a1,em (bF) b] (fM R):=by
 exact dK Tryz.func231 J<|d<|bm<|bu<|ax J<|Q J<|eE h Z8 (RE _ _) (cy J) fun r h=>bf J<|so h▸aA J J

def UD a1 b{R}(h:JF a1 b=some R):cX bd 198 [em (zY) a1,em (zY) b] (fM R):=by
 exact dK Tryz.func198 J<|d<|bm<|bu<|ax J<|Q J<|eE h Z9 (RF _ _ _) ⟨(D J),(D J),(Rt aaE fun x y h=>Ur _ _ h),aZ⟩ fun r h=>bf J<|so h▸aA J J

def UM a1 b{R}(h:G0 a1 b=some R):cX bd 156 [tD pD a1,tD pD b] (fM R):=by
 refine dK Tryz.func156 J<|d<|dl J<|dl J<|bm<|bu<|d<|aQ Av q7 zF J<|aQ Av q7 zF J<|s (Ig Gk (D J) (D J))<|Q J<|ae J (bv Au q6 J J)<|ae J (bq qf J J)<|ae J (bv Au q6 J J)<|ae J (bq qf J J)<|ae J (fun Y=>di (bl J Y) (bl J Y))<|cm J<|Q J<|bR h fun t q_t h=>?_;refine ae J (bv Aw q8 J J)<|ae J (bq Lk J J)<|ae J (bv Aw q8 J J)<|ae J (bq Lk J J) ?_
 obtain⟨r,h1t,h0t⟩:=og q_t
 have q_rg:=fun H=>(h1t H).1
 exact ae J (fun Y=>cD aaY (UD _ _ (q_rg Y)) ⟨(bl J Y),(bl J Y),aZ⟩)<|s (co (D J) (fun H=>(bl J H)) (fun H=>(h1t H).2) h0t)<|bf J<|so h▸aA J J

def U0 p{R}(h:wp p=some R):cX bd 115 [tD iw p] (bH R):=by
 refine dK Tryz.func115 J<|d<|dl J<|ca<|bu<|d<|aQ Iu vt sa J<|eE h abr (UO _) (cy J) fun r h=>aN J<|aS<|aQ E4 tg bB J<|bu<|ak ?_;refine d<|bp J<|aN J<|fy h J (fun h=>?_) (fun h=>?_)
 ·refine aj<|Q J<|Q J<|ae J (bv Cx rq J J)<|ae J (bq qf J J)<|ae J (gQ J)<|cm J<|Q J<|bR h fun t q_t h=>ae J (bv tw jF J J)<|ae J (bq Ww J J)<|ae J (bv As pW J J)<|ae J (bq qf J J) ?_
  obtain⟨r1,h1t,h0t⟩:=og q_t
  have q_r1g:=fun H=>(h1t H).1
  refine ae J (fun Y=>cD abq (UN _ _ (q_r1g Y)) ⟨(bl J Y),(bl J Y),aZ⟩)<|s (co (D J) (fun H=>(bl J H)) (fun H=>(h1t H).2) h0t)<|d6 J<|aJ<|al<|au<|aS<|Q J<|s (fG (D J))<|bW h J (fun h=>?_) (fun h=>?_)
  ·exact d<|eg<|af<|so h▸aA J J
  ·exact fN<|d<|eg<|so h▸aA J J
 ·refine d<|bp J<|aN J<|fy h J (fun h=>?_) (fun h=>?_)
  ·refine aj<|Q J<|Q J<|bR h fun t1 q_t1 h=>ae J (bv tw jF J J)<|ae J (bq Ww J J)<|ae J (fun Y=>ee Ww ab4 Ja J) ?_
   obtain⟨r2,h1t1,h0t1⟩:=og q_t1
   have q_r2g:=fun H=>(h1t1 H).1
   refine ae J (fun Y=>cD abp (UM _ _ (q_r2g Y)) ⟨(bl J Y),(bl J Y),aZ⟩)<|s (co (D J) (fun H=>(bl J H)) (fun H=>(h1t1 H).2) h0t1)<|Q J<|ae J (bv As pW J J)<|ae J (bq qf J J)<|ae J (fun Y=>dB (bl J Y) hI)<|cm J<|Q J<|ae J (bv As pW J J)<|ae J (bq qf J J)<|ae J (fun Y=>eY (bl J Y) hI)<|cm J<|Q J<|ae J (bv Cx rq J J)<|ae J (bq qf J J)<|ae J (bv As pW J J)<|ae J (bq qf J J)<|ae J (fun Y=>dP (bl J Y) hI)<|ae J (fun Y=>dB (bl J Y) (bl J Y))<|cm J<|Q J<|ae J (bv Cx rq J J)<|ae J (bq qf J J)<|ae J (fun Y=>eY (bl J Y) hI) ?_;refine cm J<|d6 J<|aJ<|al<|au<|aS<|Q J<|s (fG (D J))<|bW h J (fun h=>?_) (fun h=>?_)
   ·exact d<|eg<|af<|so h▸aA J J
   ·exact fN<|d<|eg<|so h▸aA J J
  ·refine aj<|bm<|aJ<|al<|au<|aS<|Q J<|s (fG (D J))<|bW h J (fun h=>?_) (fun h=>?_)
   ·exact d<|eg<|af<|so h▸aA J J
   ·exact fN<|d<|eg<|so h▸aA J J

def U1 m kind{R}(h:lY m kind=some R):cX bd 114 [bH kind,ck iC m] (fM R):=by
 refine dK Tryz.func114 J<|d<|bm<|bu<|d<|aQ Cv yz bB J<|s (dB (D J) hI)<|Q J<|ae J (bv Cv yz J J)<|ae J (bq bB J J)<|ae J (fun Y=>fH (bl J Y) hI)<|cm J<|Q J<|ae J (bv Ct yx J J)<|ae J (fun Y=>fj E4 J tg J (bl J Y))<|ae J (bq bB J J)<|ae J (bX J)<|ae J (fun Y=>di (bl J Y) (bl J Y))<|cm J<|Q J ?_;refine bR h fun t q_t h=>ae J (bv Ct yx J J)<|ae J (bq Ox J J) ?_
 obtain⟨r,h1t,h0t⟩:=og q_t
 have q_rg:=fun H=>(h1t H).1
 exact ae J (fun Y=>cD abJ (U0 _ (q_rg Y)) ⟨(bl J Y),aZ⟩)<|ae J (gQ J)<|s (co (D J) (fun H=>(bl J H)) (fun H=>(h1t H).2) h0t)<|bf J<|so h▸aA J J

def Xs m{R}(h:Bv m=some R):cX bd 58 [tD iC m] (fM R):=by
 refine dK Tryz.func58 J<|d<|dl J<|bm<|bu<|d<|s ((show cI _ _ _ _ ((mI bd Jc qX (fun(x:Int)=>(lY m) x)))from yk (cts:=[ck iC m]) (caps:=[.tmp 1]) abK ⟨(D J),aZ⟩ (fun x y h=>U1 _ _ h)))<|aN J<|aS<|aQ Ar wt bB J<|bu<|ak<|d<|bp J ?_;refine aN J<|fy h J (fun h=>?_) (fun h=>?_)
 ·refine d<|aQ Cu yy bB J<|s (dB (D J) hI)<|Q J<|ae J (bv Cu yy J J)<|ae J (bq bB J J)<|ae J (fun Y=>eY (bl J Y) hI)<|cm J<|Q J<|bR h fun t q_t h=>ae J (bv E1 BA J J)<|ae J (bq rD J J) ?_
  obtain⟨r,h1t,h0t⟩:=og q_t
  have q_rg:=fun H=>(h1t H).1
  exact ae J (fun Y=>cD Yu (Me _ (q_rg Y)) ⟨(bl J Y),aZ⟩)<|s (co (D J) (fun H=>(bl J H)) (fun H=>(h1t H).2) h0t)<|bf J<|cx<|so h▸aA J J
 ·refine d5 (aa:=fun x=>qP m x=some R) (Of:=fun x=>[]) (Gf:=fun x=>[(1,ck iC m),(3,(mI bd Jc qX (fun(x:Int)=>(lY m) x))),(6,bH m.Kind),(22,fM x)]) (fun x h=>?_) (fun h2=>?_)
  ·skip
   refine fy h J (fun h=>?_) (fun h=>?_)
   ·exact d<|bm<|bM<|cx<|so h▸aA J J
   ·refine d<|bp J<|aN J<|fy h J (fun h=>?_) (fun h=>?_)
    ·exact ax J<|bR h fun r1 q_r1 h=>s (mO (args:=Qa) (res:=AZ) (f:=(fun(x:Int)=>(lY m) x)) (x:=(((1:Int)):Int)) (D J) q_r1 ⟨hI,aZ⟩)<|bf J<|cx<|so h▸aA J J
    ·refine d<|bp J<|aN J<|fy h J (fun h=>?_) (fun h=>?_)
     ·exact ax J<|bR h fun r2 q_r2 h=>s (mO (args:=Qa) (res:=AZ) (f:=(fun(x:Int)=>(lY m) x)) (x:=(((2:Int)):Int)) (D J) q_r2 ⟨hI,aZ⟩)<|bf J<|cx<|so h▸aA J J
     ·refine d<|bp J<|aN J<|fy h J (fun h=>?_) (fun h=>?_)
      ·exact d<|aQ Cs yw B7 J<|bp J<|Q J<|aD J (bv Cs yw J J)<|aD J (bq B7 J J)<|aD J (gQ J)<|dG J<|bf J<|cx<|so h▸aA J J
      ·exact bc<|al<|au<|d<|bm<|bM<|so h▸aA J J
  ·skip
   refine d<|bp J<|aN J<|fy h J (fun h=>?_) (fun h=>?_)
   ·refine bc ?_;exact bE (h2 (m.Kind==(2:Int)) h) (aX J)
   ·refine d<|bp J<|aN J<|fy h J (fun h=>?_) (fun h=>?_)
    ·refine bc ?_;exact bE (h2 (m.Kind==(6:Int)) h) (aX J)
    ·refine aj<|bp J<|d6 J<|aJ ?_;exact bE (h2 (m.Kind==(7:Int)) h) (aX J)

end Go.Proofs.YtdohlidddcgfjaaGreat

