import Derived.Test.YtadeokalnbmppaaGreatDoorReT
import Derived.Test.YtadeokalnbmppaaGreatDoorReF
set_option linter.all false
namespace Go.Proofs.YtadeokalnbmppaaGreatDoor
open Go IntKind Tryz
abbrev Z6:=fun(mc:aF) (mx:ac)=>(iZ mc mx).map fun mr=>(mr,mc)
abbrev Z5:=fun(mc:aF) (mx:ac)=>(j7 mc mx).map fun mr=>(mr,mc)
abbrev aaa:=fun(mc:aF) (mx:ac)=>(ja mc mx).map fun mr=>(mr,mc)
abbrev Z7:=fun(mc:aF) (mx:ac)=>(jw mc mx).map fun mr=>(mr,mc)
abbrev aab:=fun(mc:aF) (mx:ac)=>(iA mc mx).map fun mr=>(mr,mc)
abbrev aad:=fun(mc:aF) (mx:ac)=>(gX mc mx).map fun mr=>(mr,mc)
abbrev Z9:=fun(mc:aF) (mx:ac)=>(ju mc mx).map fun mr=>(mr,mc)
abbrev Z8:=fun(mc:aF) (mx:ac)=>(jv mc mx).map fun mr=>(mr,mc)
abbrev W0:=dC (dC (dC (dC (dC (dC (dC (dC ([]:List (Int×(aF->ac->Option (((List Int)×Bool)×aF)))) 1 Z6) 2 Z5) 3 aaa) 4 Z7) 5 aab) 6 aad) 7 Z9) 8 Z8
abbrev bY:=rI .i64
abbrev aak:=fun(mc:aK) (mx:ac×(List Int)×(List be))=>(mu mc mx.1 mx.2.1 mx.2.2).map fun mr=>(mr,mc)
abbrev aal:=fun(mc:aK) (mx:ac×(List Int)×(List be))=>(kO mc mx.1 mx.2.1 mx.2.2).map fun mr=>(mr,mc)
abbrev aam:=fun(mc:aK) (mx:ac×(List Int)×(List be))=>(kf mc mx.1 mx.2.1 mx.2.2).map fun mr=>(mr,mc)
abbrev aaf:=fun(mc:aK) (mx:ac×(List Int)×(List be))=>mw mc mx.1 mx.2.1 mx.2.2
abbrev aag:=fun(mc:aK) (mx:ac×(List Int)×(List be))=>lD mc mx.1 mx.2.1 mx.2.2
abbrev aaj:=fun(mc:aK) (mx:ac×(List Int)×(List be))=>jG mc mx.1 mx.2.1 mx.2.2
abbrev aai:=fun(mc:aK) (mx:ac×(List Int)×(List be))=>lB mc mx.1 mx.2.1 mx.2.2
abbrev aah:=fun(mc:aK) (mx:ac×(List Int)×(List be))=>lC mc mx.1 mx.2.1 mx.2.2
abbrev zk2:=dC (dC (dC (dC (dC (dC (dC (dC ([]:List (Int×(aK->(ac×(List Int)×(List be))->Option (be×aK)))) 1 aak) 3 aal) 5 aam) 2 aaf) 4 aag) 6 aaj) 7 aai) 8 aah
abbrev IY:=fun(x:ac×(List Int)×(List be))=>[tD al x.1,gM x.2.1,fI (aq) x.2.2]
abbrev qw:=fun(x:Bool)=>gp x
abbrev E7:=fun(x:(List Int)×Bool)=>tT [gM x.1,gp x.2]
abbrev vz:=(⟨[],[],0,[]⟩:be)
abbrev Bv:=fun(x:ac)=>[tD al x]
abbrev WQ:=(⟨0,0,0,0,[],false,(⟨[]⟩:bD),[],[],[],[],0⟩:ac)
abbrev zY:=Us oX
abbrev Kb:=fun(x:(Option er))=>[tD zY x]
abbrev xC:=fun(x:be)=>tD aq x
abbrev Z4:=(⟨1,(-1),(-1),1,[2],false,⟨[]⟩,[],[],[],[],0⟩:ac)
abbrev ZZ:=(⟨1,⟨[]⟩⟩:fh)
abbrev aae:=(⟨4,0,(-1),0,[],false,⟨[]⟩,[],[ZZ],[],[],0⟩:ac)
abbrev WZ:=(⟨[Z4,aae]⟩:cQ)
abbrev yM:=fun(x:bT)=>tD dU x
abbrev CV:=fun(x:de)=>[tD fD x]
abbrev ue:=Us iR
abbrev FZ:=fun(x:cc)=>[tD ev x]
abbrev Bw:=fun(x:ru)=>tD rS x
abbrev OL:=fun(x:hJ×Int)=>[tD iL x.1,bX x.2]
abbrev vH:=([]:List Int)
abbrev FY:=fun(x:Bool)=>tD rB x
abbrev oQ:=eW bY
abbrev OK:=(⟨0,0,0,0,⟨0,0,0,[]⟩⟩:bw)
abbrev GM:=fun(x:Int)=>[bX x]
abbrev WY:=fun(x:bw×(List Int))=>[tD bJ x.1,gM x.2]
abbrev ZW:=(⟨[97],2⟩:cc)
abbrev ZX:=(⟨[98],2⟩:cc)
abbrev aac:=(⟨[116],[ZW,ZX],[0]⟩:de)
abbrev Sv:=tD ue (none:(Option df))
abbrev vG:=kvI .i64
abbrev Su:=fun(x:px)=>[tD kz x]
abbrev WX:=fun(x:Int×Int)=>tT [bX x.1,bX x.2]
abbrev UB:=fun(x:bt)=>[tD bk x]
abbrev Z3:=fun(x:bw×(List Int))=>[tD bJ x.1,tD oQ x.2]
abbrev Ed:=eW aq
abbrev Z2:=fun(x:fh×fh)=>[tD eg x.1,tD eg x.2]
abbrev ZY:=(⟨[99],2⟩:cc)
abbrev Z1:=(⟨[117],[ZY],[]⟩:de)
abbrev WW:=fun(x:bw)=>[tD bJ x]
abbrev UA:=CL (fun y:Int=>bX y)
abbrev Z0:=fun(x:Int×Int)=>tT [tD bY x.1,tD bY x.2]
abbrev Ik:=eW al
abbrev WV:=fun(x:bD)=>[tD cg x]
abbrev CU:=(-1)
abbrev OJ:=([]:List ac)
abbrev WU:=(⟨0,0,0,[]⟩:dX)
abbrev WT:=fun(x:Int)=>bX x
abbrev Sr:=eW bJ
abbrev Uz:=([]:List fh)
abbrev WS:=tV (ak none 0 0)
abbrev Sq:=sj bY 2
abbrev WR:=(⟨[]⟩:dp)
abbrev Uy:=eW bk
set_option maxRecDepth 100000
def Yw s f{R}(h:oG s f=some R):cN aL 137 [gM s,(iM aL GM qw (fun(x:Int)=>f x))] (bX R):=by
 refine dL func137 J<|aV<|cM<|bA<|bc<|aQ J<|cm dI J<|M (bH hI)<|bA<|am<|aR (k:=6) J fun hN=>bE ?_;refine aE (fj (h3:=fun ls i=>(s.drop i=ls)/\iD f ls i=some R) (Of:=fun _ i=>[]) (Gf:=fun _ i=>[(0,gM s),(1,(iM aL GM qw (fun(x:Int)=>f x))),(7,jg s),(8,bX (i:Int))]) (fun i h=>?_) (fun e tl ih i h=>?_) s 0 ⟨J,h⟩) (aX J)
 ·obtain⟨I,h⟩:=h;exact dH I J<|ax<|aV<|jK<|so h▸aD J J
 ·obtain⟨I,h⟩:=h;refine dG I J<|aw<|am<|aB J<|aU J<|aB J<|aQ J<|aQ J<|vA dI bN J (dE I) ?_;refine cx bN J<|cy h fun r F_ h=>M (kE (args:=(fun(x:Int)=>[tD bY x])) (res:=FY) (f:=(fun(x:Int)=>f x)) (x:=((e):Int)) (Y J) F_ ⟨(Y J),aW⟩)<|cD h J (fun h=>?_) (fun h=>?_)
  ·exact aB J<|bz J<|dB<|ai<|dB<|so h▸aD J J
  ·refine bl<|dg I hN J ?_;exact aT (aE (ih (i+1) ⟨cV I,h⟩) (aX J))
def EJ s f{R}(h:dr s f=some R):cN aL 79 [gM s,(iM aL GM qw (fun(x:Int)=>f x))] (gp R):=by
 exact dL func79 J<|aV<|bn<|bA<|aB J<|aQ J<|eG h aeb (Yw _ _) (cA J) fun r h=>M (eT (Y J) hI)<|bz J<|so h▸aD J J
def Yn k{R}(h:Fu k=some R):cN aL 150 [bX k] (gp R):=by
 exact dL func150 J<|aV<|bn<|bA<|aB J<|cz J<|aQ J<|aC J (cY J)<|aC J (iu J)<|fV J<|aQ J<|aC J (cY J)<|aC J (iu J)<|fV J<|bz J<|so h▸aD J J
def Yo k{R}(h:oq k=some R):cN aL 149 [bX k] (gp R):=by
 exact dL func149 J<|aV<|bn<|bA<|aB J<|eG h ad2 (Yn _) (cA J) fun r h=>M (gz (Y J))<|bz J<|so h▸aD J J
def ab3(b:Nat)(ix:OI) c n{R}(h:iZ c n=some R):dj aL 102 [tV (an b 0),tD al n] (kq b c ix) (fun _:OI=>tT [gM R.1,gp R.2]) (fun _=>(kq b c ix)):=by
 refine dj.of func102 J J J fun w0 S0=>?_;refine(show CG _ _ _ [bx (rH bP [(1,ak (ix.h 0).1 (ix.h 0).2 c.j'.length),(2,ak (ix.h 1).1 (ix.h 1).2 c.first.length)]) 95 b c,dM gG 40 (ix.h 0).1 (ix.h 0).2 c.j',dM bY 3 (ix.h 1).1 (ix.h 1).2 c.first] _ from ?_);refine aV<|cR J<|lU bY<|bn<|bA<|aV<|M (bL (show aG _ _ _ ((iM aL GM qw (fun(x:Int)=>oq x)))from(Ii ad3 fun x y h=>Yo _ h)))<|bA<|aV<|bg oM gC bN J<|M (eT (Y J) hI)<|aQ J<|aj J (cZ oM gC J J)<|aj J (cG bN J J)<|aj J (fun H=>gA (br J H) hI)<|dx J<|aQ J<|aj J (cZ oL gY J J) ?_;refine aj J (cG bK J J)<|aj J (fM dI J)<|aj J (fun H=>eT (br J H) hI)<|dx J<|aQ J<|aj J (cZ oL gY J J)<|aj J (cG bK J J)<|aj J (fM dI J)<|aj J (fun H=>kZ (br J H) hI)<|dx J<|aU J<|aw<|cy h fun t Z_ h=>?_;obtain⟨r,B_,h0t⟩:=og Z_;have q_rg:=fun K=>(B_ K).1;refine eE (ts:=[_,_,_,_,_,_,_,_,_,_,_,_]) mixed J J
  ⟨oU 3 J J (mj oL gY J J),
  ⟨gH 0 bK J J,
  ⟨fg J J,
  ⟨dy 30 2 J J (kR J),
  ⟨rn 3 31 3 J J J (cX J J J J (fun H=>mj oL gY J J)),
  ⟨hY 32 4 31 3 J J J (cX J J J J (fun H=>eJ bK J J (br J H))),
  ⟨rn 6 31 3 J J J (cX J J J J (fun H=>kR J)),
  ⟨w8 33 5 34 6 31 3 J J J J (cX J J J J (fun H=>cq TZ (EJ _ _ (q_rg H)) ⟨(br J H),(br J H),aW⟩)),
  ⟨hY 35 7 31 3 J J J (cX J J J J (fun H=>gz (br J H))),
  ⟨eQ 31 3 36 8 J J J (dW (Y J) (fun K=>(br J K)) (fun K=>(B_ K).2) h0t),
  ⟨dy 29 1 J J (yO J),
  ⟨dy 37 9 J J (yO J),
  aW⟩⟩⟩⟩⟩⟩⟩⟩⟩⟩⟩⟩ ?_
 exact ax<|kM<|ah<|ah<|ah<|so h▸nK (ts:=[gM n.U',gp t]) (rvs:=[.tmp 4,.tmp 5]) J J ⟨fb J,fb J,aW⟩ rs J J
def V3 n{R}(h:oW n=some R):mi aL 175 [tV (.slice none 0 0),bX n] false bY 3 R:=by
 refine mi.of func175 J J J fun w0 S0=>aV<|cr false bY 3<|M (bL xq)<|bA ?_;refine J1 (h3:=pK n=some R) (Of:=[]) (Gf:=[(0,tV (.slice none 0 0)),(1,bX n)]) (fun h=>?_) (fun hb=>?_)
 ·skip;refine Ul (h3:=fun s l c=>pJ s=some R) (Of:=fun s l c=>[fa bY 3 l c s]) (Gf:=fun s l c=>[(0,s5 l c s)]) (fun s l c h=>?_) (fun K1=>?_)
  ·skip;exact aB J<|bz J<|so h▸lR J J
  ·skip;refine aB J<|aQ J<|M (Js dI (Y J))<|aQ J<|M (Jq dI (Y J))<|M (ij (Y J) (Y J))<|M (ij (Y J) (Y J))<|aU J<|aB J<|M (fR (Y J) hI)<|cD h J (fun h=>?_) (fun h=>?_)
   ·refine au<|aQ J<|aQ J<|M (Js dI (Y J))<|M (MO dI bN (Y J) (Y J))<|aQ J<|cy h fun u q_u h=>cy h fun mk q_mk h=>nI (NT (r:=bY) (x:=0) bN J J J J dI ld (fun _=>J) (Y J) (Y J) (VI q_u) q_mk) J fun i=>aQ J<|M (Jq dI (Y J))<|cy h fun y q_y h=>M (qO dI bN J (.head _) (Y J) (Y J) q_y)<|H5 q_y<|fX J<|bm ?_;exact bQ (K1 y (i.h 0).1 (i.h 0).2 h) (aX J)
   ·refine bl<|WG false bY 3 ?_;exact bQ (K1 vH none 0 h) (aX J)
 ·skip;refine aB J<|M (gA (Y J) hI)<|cD h J (fun h=>?_) (fun h=>?_)
  ·refine au ?_;exact(nn h).elim
  ·refine bl<|aJ ?_;exact bQ (hb h) (aX J)
def V5 slices{R}(h:jE slices=some R):mi aL 151 [fI (gG) slices] false bY 3 R:=by
 refine mi.of func151 J J J fun w0 S0=>aV<|cr false bY 3<|M (bL xq)<|bA<|aV<|cM<|bA<|bc<|aQ J<|cm qt J<|M (bH hI)<|bA<|am<|aR (k:=9) J fun hN=>bE<|r0 ?_;refine aE (qc (h3:=fun ls i size=>(slices.drop i=ls)/\lK slices ls size=some R) (Of:=fun _ i size=>[]) (Gf:=fun _ i size=>[(0,fI (gG) slices),(3,bX size),(9,fI (gG) slices),(10,jg slices),(11,bX (i:Int))]) (fun i size h=>?_) (fun e tl ih i size h=>?_) slices 0 0 ⟨J,h⟩) (aX J)
 ·obtain⟨I,h⟩:=h;refine dH I J<|ax<|aB J<|t7 h adO (V3 _) ⟨hV,(Y J),aW⟩ fun r h l c=>aU J<|bc ?_;refine aQ J<|cm qt J<|M (bH hI)<|bA<|am<|aR (k:=25) J fun hN1=>bE ?_;refine aE (qb (h3:=fun ls1 i1 S_ l1 c1=>(slices.drop i1=ls1)/\lJ ls1 S_=some R) (Of:=fun _ i1 S_ l1 c1=>[fa bY 3 l1 c1 S_]) (Gf:=fun _ i1 S_ l1 c1=>[(6,s5 l1 c1 S_),(25,fI (gG) slices),(26,jg slices),(27,bX (i1:Int))]) (fun i1 S_ l1 c1 h=>?_) (fun e1 tl1 ih1 i1 S_ l1 c1 h=>?_) slices 0 r l c ⟨J,h⟩) (aX J)
  ·obtain⟨m_,h⟩:=h;exact dH m_ J<|ax<|aB J<|bz J<|so h▸lR J J
  ·obtain⟨m_,h⟩:=h;refine dG m_ J<|aw<|am<|aV<|dN qt bK J (dE m_)<|aU J<|au<|aQ J<|aQ J<|cy h fun newslice1 q_newslice1 h=>ea bN J J J J dI J J (Y J) (Y J) q_newslice1 fun l2 c2=>?_;refine fX J<|bm<|dg m_ hN1 J ?_;exact aT (aE (ih1 (i1+1) newslice1 l2 c2 ⟨cV m_,h⟩) (aX J))
 ·obtain⟨I,h⟩:=h;refine dG I J<|aw<|am<|aV<|dN qt bK J (dE I)<|aU J<|aB J<|aQ J<|cm dI J ?_;refine M (nT (Y J) (Y J))<|aU J<|aB J<|M (gA (Y J) hI)<|cD h J (fun h=>?_) (fun h=>?_)
  ·refine au ?_;exact(nn h).elim
  ·refine bl<|dg I hN J ?_;exact aT (aE (ih (i+1) (i64.wrap (size+(e.length:Int))) ⟨cV I,h⟩) (aX J))
def RP slices{R}(h:jE slices=some R):cN aL 151 [fI (gG) slices] (gM R):=(V5 _ h).spec
def RK tag{R}(h:uv tag=some R):cN aL 173 [bX tag] (bX R):=by
 refine dL func173 J<|aV<|cM<|bA<|aw<|am<|aB J<|cz J<|aQ J<|aC J (cY J)<|aC J (iu J)<|fV J<|aU J<|oS h J (fun h=>?_) (fun h=>?_)
 ·exact aV<|jK<|dB<|so h▸aD J J
 ·refine aB J<|M (eT (Y J) hI)<|aQ J<|aj J (cY J)<|aj J (fun H=>kZ (br J H) hI)<|dx J<|aU J<|oS h J (fun h=>?_) (fun h=>?_)
  ·exact aV<|jK<|dB<|so h▸aD J J
  ·refine aB J<|M (eT (Y J) hI)<|aQ J<|aj J (cY J)<|aj J (fun H=>kZ (br J H) hI)<|dx J<|aU J<|oS h J (fun h=>?_) (fun h=>?_)
   ·exact aV<|jK<|dB<|so h▸aD J J
   ·exact bl<|bf<|ax<|aV<|jK<|so h▸aD J J
def X3 v{R}(h:zZ v=some R):cN aL 204 [tD gL v] (tD gL R):=by
 refine dL func204 J<|aV<|tU (Y J) J fun b=>aO zF zX J fun b1=>bA<|bc<|bI 0 Bh J<|M (ay bN J J zj (.tail _ (.head _)) (Y J))<|bA ?_;refine J5 (h3:=fun v1=>nq v1=some R) (Of:=fun v1=>[bx gL 105 b v1,bx gL 105 b1 WU]) (Gf:=fun v1=>[(1,tV (an b 0)),(2,tV (an b1 0))]) (fun v1 h=>?_) (fun hb=>?_)
 ·skip;exact ax<|aV<|M (ay zF J J bC (.head _) (Y J))<|bM<|bv zF ae J<|aH 2 J<|bO<|aJ<|so h▸gF J zF J J J
 ·skip;refine aw<|am<|aw<|am<|aw ?_;refine J5 (h3:=fun v2=>tk v2=some R) (Of:=fun v2=>[bx gL 105 b v2,bx gL 105 b1 WU]) (Gf:=fun v2=>[(1,tV (an b 0)),(2,tV (an b1 0))]) (fun v2 h=>?_) (fun K1=>?_)
  ·skip;refine ax<|aV<|bI 0 Bh J<|dZ bN J Cg J (Y J) hI<|bA<|iN<|cI J<|aN<|cI J<|aN<|dY ?_;exact bQ (hb (dX.mk 0 v2.N v2.U v2.S) h) (aX J)
  ·skip;refine aw ?_;refine J6 (h3:=th v=some R) (Of:=[bx gL 105 b v,bx gL 105 b1 WU]) (Gf:=[(1,tV (an b 0)),(2,tV (an b1 0))]) (fun h=>?_) (fun K2=>?_)
   ·skip;refine ax<|au<|bI 1 GC J<|dZ ti2 J G3 J (Y J) hI<|bm<|bf ?_;exact bQ (K1 (dX.mk v.Kind 0 v.U v.S) h) (aX J)
   ·skip;refine aw<|am<|aw<|bc<|cz J<|aU J<|oS h J (fun h=>?_) (fun h=>?_)
    ·refine iN<|aN<|aN<|dY<|ax<|aV<|bI 1 GC J<|M (ay ti2 J J Cx (.tail _ (.head _)) (Y J))<|mn J<|aQ J<|aj J (fun H=>qd 1 GC J J J)<|aj J (fun H=>ay ti2 J J Cx (.tail _ (.head _)) (br J H))<|aj J (uV J)<|dx J<|cD h J (fun h=>?_) (fun h=>?_)
     ·refine iN<|cI J<|aN<|cI J<|aN<|cI J<|aN<|cI J<|aN<|dY<|bj ?_;exact bQ (hb v h) (aX J)
     ·refine bl<|bf<|bj ?_;exact bQ (K2 h) (aX J)
    ·refine kp<|bc<|cz J<|aU J<|oS h J (fun h=>?_) (fun h=>?_)
     ·refine iN<|aN<|aN<|cI J<|aN<|dY<|bj ?_;exact bQ (K2 h) (aX J)
     ·refine kp<|bc<|cz J<|aU J<|oS h J (fun h=>?_) (fun h=>?_)
      ·refine iN<|aN<|aN<|cI J<|aN<|cI J<|aN<|dY<|bj ?_;exact bQ (K1 v h) (aX J)
      ·refine kp<|bc<|cz J<|aU J<|oS h J (fun h=>?_) (fun h=>?_)
       ·refine iN<|aN<|aN<|cI J<|aN<|cI J<|aN<|cI J<|aN<|dY<|ax ?_;refine fL (h3:=fun v3=>tg v3=some R) (Of:=fun v3=>[bx gL 105 b v3,bx gL 105 b1 WU]) (Gf:=fun v3=>[(1,tV (an b 0)),(2,tV (an b1 0))]) (fun v3 h=>?_) (fun K3=>?_)
        ·skip;refine iN<|cI J<|aN<|dY ?_;exact bQ (hb v3 h) (aX J)
        ·skip;refine aV<|bI 3 Lj J<|M (ay OV J J Cw (.tail _ (.head _)) (Y J))<|M (Dk pB (Y J))<|M (kZ (Y J) hI)<|cD h J (fun h=>?_) (fun h=>?_)
         ·refine au<|bI 0 Bh J<|bM<|dZ bN J Cg J (Y J) hI<|bI 3 Lj J<|dZ OV J Pb J (Y J) hS<|bm ?_;exact bQ (K3 (dX.mk 0 v.N v.U ([])) h) (aX J)
         ·refine bl<|bj ?_;exact bQ (K3 v h) (aX J)
       ·refine kp<|aV<|cz J<|aU J<|oS h J (fun h=>?_) (fun h=>?_)
        ·refine iN<|aN<|cI J<|aN<|cI J<|aN<|cI J<|aN<|cI J<|aN<|dY<|ax<|aV<|bI 0 Bh J<|bM<|dZ bN J Cg J (Y J) hI<|bI 1 GC J<|dZ ti2 J G3 J (Y J) hI<|bI 2 XU J<|dZ Zh J Pc J (Y J) hI<|bA<|iN ?_;refine dY ?_;exact bQ (hb (dX.mk 0 0 0 v.S) h) (aX J)
        ·refine kp<|iN<|cI J<|aN<|cI J<|aN<|cI J<|aN<|cI J<|aN<|cI J<|aN<|dY<|bj ?_;exact bQ (hb v h) (aX J)
def X4 v{R}(h:xc v=some R):cN aL 198 [tD gL v] (bX R):=by
 refine dL func198 J<|aV<|cR J<|cM<|bA<|bc<|cx zF J<|eG h adB (X3 _) (cA J) fun r h=>M (dl zF VM zX J)<|M (Gr Wb (Y J) (Y J))<|cD h J (fun h=>?_) (fun h=>?_)
 ·exact aV<|jK<|ai<|so h▸aD J J
 ·exact kp<|aV<|jK<|so h▸aD J J
def X5 v{R}(h:w9 v=some R):cN aL 189 [tD gL v] (gp R):=by
 exact dL func189 J<|aV<|cR J<|bn<|bA<|aV<|cx zF J<|eG h adD (X4 _) (cA J) fun r h=>cz J<|aQ J<|aj J (cZ Bh zj J J)<|aj J (cG bN J J)<|aj J (uV J)<|dx J<|bz J<|so h▸aD J J
def Yb n{R}(h:xw n=some R):cN aL 174 [tD bJ n] (gp R):=by
 refine dL func174 J<|aV<|cR J<|bn<|bA<|bc<|bg ow je bN J<|bA<|am<|aV<|cz J<|aU J<|oS h J (fun h=>?_) (fun h=>?_)
 ·exact aV<|bg Dy wJ zF J<|eG h adH (X5 _) (cA J) fun r h=>aQ J<|aj J (cZ rY mL J J)<|aj J (cG bN J J)<|aj J (iu J)<|dx J<|bz J<|dB<|so h▸aD J J
 ·refine aV<|cz J<|aU J<|oS h J (fun h=>?_) (fun h=>?_)
  ·exact aV<|bg Dy wJ zF J<|M (dl zF VM zX J)<|M (Rr Wb (Y J) (Y J))<|aQ J<|aj J (cZ rY mL J J)<|aj J (cG bN J J)<|aj J (fun H=>eT (br J H) hI)<|dx J<|aQ J<|aj J (cZ rY mL J J)<|aj J (cG bN J J)<|aj J (fun H=>gA (br J H) hI)<|dx J<|bz J<|dB<|so h▸aD J J
  ·exact bl<|bf<|ax<|aV<|bg Dy wJ zF J<|M (dl zF VM zX J)<|M (Rr Wb (Y J) (Y J))<|aQ J<|aj J (cZ rY mL J J)<|aj J (cG bN J J)<|aj J (iu J)<|dx J<|bz J<|so h▸aD J J
def RQ e{R}(h:ve e=some R):cN aL 148 [tD cg e] (tT [gM R.1,gp R.2]):=by
 refine dL func148 J<|aV<|cR J<|lU bY<|bn<|bA<|aV<|cr false bY 3<|M (bL xq)<|cr false bY 3<|M (bL xq)<|bA<|bc<|bg gI dF pC J<|cm oD J<|M (bH hI)<|bm ?_;refine ax<|am<|aR (k:=15) J fun hN=>bE<|gE ?_;refine aE (DY (h3:=fun ls i all l c open1 l1 c1=>(e.u'.drop i=ls)/\nF ls i all open1=some R) (Of:=fun _ i all l c open1 l1 c1=>[fa bY 3 l c all,fa bY 3 l1 c1 open1]) (Gf:=fun _ i all l c open1 l1 c1=>[(4,s5 l c all),(5,s5 l1 c1 open1),(15,fI (bJ) e.u'),(16,jg e.u'),(17,bX (i:Int))]) (fun i all l c open1 l1 c1 h=>?_) (fun e1 tl ih i all l c open1 l1 c1 h=>?_) e.u' 0 vH none 0 vH none 0 ⟨J,h⟩) (aX J)
 ·obtain⟨I,h⟩:=h;refine dH I J<|ax<|aB J<|aQ J<|M (iF dI (.tail _ (.head _)) (Y J))<|cz J<|aQ J<|aj J (cY J)<|aj J (fun H=>iF dI (.head _) (br J H))<|aj J (fun H=>kZ (br J H) hI)<|dx J ?_;exact fX J<|bz J<|gQ<|d6 4 J<|d6 84 J<|d6 2 J<|n6 2 J<|aJ<|aJ<|so h▸ff J J J
 ·obtain⟨I,h⟩:=h;refine dG I J<|aw<|am<|aB J<|dN oD hM J (dE I)<|aO hM tf J fun b=>fX J<|bv hM ae J<|aH 7 J<|bA<|aw ?_;refine au<|bg ow je bN J<|eG h Zy (RK _) (cA J) fun r h=>aU J<|bc<|aQ J<|M (gA (Y J) hI)<|aQ J<|aC J (cY J)<|aC J (cY J)<|aC J (fun H=>iF dI (.tail _ (.head _)) (br J H))<|aC J (fun H=>fR (br J H) (br J H))<|fV J<|aQ J<|cy h fun t Z_ h=>aC J (fun H=>m9 hM J J) ?_;obtain⟨r1,B_,h0t⟩:=og Z_;have q_r1g:=fun K=>(B_ K).1;refine aC J (fun H=>cq adP (Yb _ (q_r1g H)) ⟨(br J H),aW⟩)<|aC J (wj J)<|M (iz (Y J) (fun K=>(br J (sn K))) (fun K=>(B_ K).2) h0t)<|cD h J (fun h=>?_) (fun h=>?_)
  ·exact aV<|lU bY<|bn<|bO<|ai<|dB<|ai<|dB<|aJ<|aJ<|so h▸ff J J J
  ·refine kp<|aB J<|aQ J<|M (iF dI (.tail _ (.head _)) (Y J))<|aQ J<|M (ij (Y J) (Y J))<|cy h fun y q_y h=>M (qN dI bN J (.tail _ (.head _)) (Y J) (Y J) q_y)<|rh (.tail _ (.head _)) q_y fun hv=>aU J<|aV<|M (uo (r:=bY) (ys:=[CU,CU]) (xs:=[.const (.int .i64 (-1)),.const (.int .i64 (-1))]) Ea bN J xY J J ⟨hI,hI,aW⟩)<|aO (r:=Sq) (x:=(List.replicate 2 (0:Int))) xY (fun _=>N4 (r:=bY) 2 (fun _=>J) _) J fun b1=>bv xY ae J<|bA<|aV ?_;refine aQ J<|aU J<|bc<|aQ J<|M (Rq dI (.tail _ (.tail _ (.head _))) q_y (Y J))<|M (bH hI)<|bA<|am ?_;have hN1:=hv.2;refine bE<|qq<|qq ?_;refine aE (ox (h3:=fun ls1 i1 first r_=>(y.drop i1=ls1)/\pp (nF tl) i e1 all open1 r ls1 i1 first r_=some R) (Of:=fun _ i1 first r_=>[fa bY 3 l c all,fa bY 3 l1 c1 open1,bx Sq 119 b1 r_]) (Gf:=fun _ i1 first r_=>[(4,s5 l c all),(5,s5 l1 c1 open1),(6,bX (i:Int)),(7,aY bJ e1),(8,bX r),(10,tV (an b1 0)),(11,bX first),(15,fI (bJ) e.u'),(16,jg e.u'),(17,bX (i:Int)),(46,tV (o4 1 l1 c1 (i64.wrap ((open1.length:Int)-r)).toNat y.length)),(47,jg y),(48,bX (i1:Int))]) (fun i1 first r_ h=>?_) (fun e2 tl1 ih1 i1 first r_ h=>?_) y 0 (i:Int) ([CU,CU]) ⟨J,h⟩) (aX J)
   ·obtain⟨m_,h⟩:=h;refine dH m_ J<|ax<|bc<|M (ay xY J J bC (.tail _ (.tail _ (.head _))) (Y J))<|bg DA zl bN J<|bg Dz zk bN J<|M (uo (r:=bY) (ys:=[e1.L,e1.R]) (xs:=[.tmp 65,.tmp 67]) Ea bN J xY J J ⟨(Y J),(Y J),aW⟩)<|M (Gr RV (Y J) (Y J))<|bm ?_;refine ax<|oS h J (fun h=>?_) (fun h=>?_)
    ·exact aV<|lU bY<|bn<|bO<|ai<|dB<|ai<|dB<|aJ<|aJ<|aJ<|so h▸ff J J J
    ·refine kp<|aB J<|aQ J<|M (aI (r:=bY) (ys:=[first]) (xs:=[.tmp 71]) dI bN J J J J J ⟨(Y J),aW⟩)<|cy h fun all1 q_all1 h=>ea bN J J J J dI J J (Y J) (Y J) q_all1 fun l2 c2=>aU J<|au<|aQ J<|aQ J<|M (iF dI (.tail _ (.head _)) (Y J))<|aQ J<|M (ij (Y J) (Y J))<|cy h fun y1 q_y1 h=>M (qO dI bN J (.tail _ (.head _)) (Y J) (Y J) q_y1)<|aQ J<|M (aI (r:=bY) (ys:=[(i:Int)]) (xs:=[.tmp 80]) dI bN J J J J J ⟨(Y J),aW⟩)<|bM<|H5 q_y1 ?_;refine cy h fun open2 q_open2 h=>ea bN J J J J dI J J (Y J) (Y J) q_open2 fun l3 c3=>fX J<|bm<|dg I hN J<|ah<|aJ<|bj ?_;exact aT (aE (ih (i+1) all1 l2 c2 open2 l3 c3 ⟨cV I,h⟩) (aX J))
   ·obtain⟨m_,h⟩:=h;refine dG m_ J<|aw<|am<|aB J<|M (BT dI bN J (.tail _ (.head _)) q_y (Y J) (Y J) (dE m_))<|M (il (r:=bY) (i:=((i64.wrap ((open1.length:Int)-r))+(i1:Int))) (J_:=0) bN J J bC J (.tail _ (.head _)) (Ce q_y (dE m_)).1 (Y J))<|fX J<|aU J<|cy h fun e3 P_ h=>cy h fun e4 q_e4 h=>cy h fun ar q_ar h=>?_;refine lw 10 [tc (bX (i1:Int)),tc (bX e2),tc (bX first),tc (s5 l c all),tc (bX e2),tc (tV (qv l (e2.toNat*1+0))),tc (bX e3),tc (bX (min first e3)),tc (tV (an b1 ((i1:Int).toNat*1))),tc (CZ)] [false,false,false,false,false,false,false,false,false,true] [fun _=>[fa bY 3 l c all,fa bY 3 l1 c1 open1,bx Sq 119 b1 r_],fun sg=>[bx Sq 119 b1 ar,fa bY 3 l c all,fa bY 3 l1 c1 open1]] J mixed J J J J J
     ⟨⟨[⟨12,fun _=>tD bY (i1:Int),none⟩],_,0,0,J,⟨(fun _=>J),aW⟩,J,J,J,J,J,fun _ sg _ _=>aa J (kR J)⟩,
     ⟨⟨[⟨13,fun _=>tD bY e2,none⟩],_,0,0,J,⟨(fun _=>J),aW⟩,J,J,J,J,J,fun _ sg _ _=>aa J (kR J)⟩,
     ⟨⟨[⟨11,fun _=>tD bY first,none⟩],_,0,1,J,⟨(fun _=>J),aW⟩,J,J,J,J,J,fun _ sg _ _=>aa J (kR J)⟩,
     ⟨⟨[⟨4,fun _=>tV (ak l c all.length),none⟩],_,0,1,J,⟨(fun _=>J),aW⟩,J,J,J,J,J,fun _ sg _ _=>aa J (kR J)⟩,
     ⟨⟨[⟨13,fun _=>tD bY e2,none⟩],_,0,1,J,⟨(fun _=>J),aW⟩,J,J,J,J,J,fun _ sg _ _=>aa J (kR J)⟩,
     ⟨⟨[⟨56,fun _=>tV (ak l c all.length),some 3⟩,⟨57,fun _=>tD bY e2,some 4⟩],_,0,1,J,⟨(fun _=>J),(fun _=>J),aW⟩,J,J,J,J,J,Ee (fun sg=>aa J (c9 dI bN (.head _) (Y J) (Y J) P_)) (vI (fun sg=>aa J (c9 dI bN (.tail _ (.head _)) (Y J) (Y J) P_)))⟩,
     ⟨⟨[⟨58,fun _=>tV (qv l (e2.toNat*1+0)),some 5⟩],_,0,1,J,⟨(fun _=>J),aW⟩,J,J,J,J,J,Ee (fun sg=>aa J (il (r:=bY) (i:=e2) (J_:=0) bN J J bC J (.head _) P_ (Y J))) (vI (fun sg=>aa J (il (r:=bY) (i:=e2) (J_:=0) bN J J bC J (.tail _ (.head _)) P_ (Y J))))⟩,
     ⟨⟨[⟨55,fun _=>tD bY first,some 2⟩,⟨59,fun _=>tD bY e3,some 6⟩],_,0,1,J,⟨(fun _=>J),(fun _=>J),aW⟩,J,J,J,J,J,fun _ sg _ _=>aa J (Rn (Y J) (Y J))⟩,
     ⟨⟨[⟨10,fun _=>tV (an b1 0),none⟩,⟨53,fun _=>tD bY (i1:Int),some 0⟩],_,0,0,J,⟨(fun _=>J),(fun _=>J),aW⟩,J,J,J,J,J,vI (fun sg=>aa J (Iw Ea bN (.tail _ (.tail _ (.head _))) (Y J) (Y J) q_e4))⟩,
     ⟨⟨[⟨61,fun _=>tV (an b1 ((i1:Int).toNat*1)),some 8⟩,⟨54,fun _=>tD bY e2,some 1⟩],_,J,⟨(fun _=>J),(fun _=>J),aW⟩,J,J,J,fun sg=>cL J (EffOK.fr2 (Qp bN J q_e4 (so q_ar) (Y J) (Y J)))⟩,
     aW⟩⟩⟩⟩⟩⟩⟩⟩⟩⟩ (fun sg=>?_)
    refine(show RG _ _ _ _ [_,_,_] _ from ?_);refine fX J<|bm<|dg m_ hN1 J<|ah<|ah ?_;exact aT (aE (ih1 (i1+1) (min first e3) ar ⟨cV m_,h⟩) (aX J))
