/- db of this claim: P0. -/
import Derived.Test.YtbmmihfagmchaaaGreatRaT
import Derived.Test.YtbmmihfagmchaaaGreatRaF
set_option linter.all false
namespace Go.Proofs.YtbmmihfagmchaaaGreat
open Go
abbrev Fz:=fun(mc:aw) (mx:an)=>(ie mc mx).map fun mr=>(mr,mc)
abbrev Fy:=fun(mc:aw) (mx:an)=>(ig mc mx).map fun mr=>(mr,mc)
abbrev FD:=fun(mc:aw) (mx:an)=>(gr mc mx).map fun mr=>(mr,mc)
abbrev FA:=fun(mc:aw) (mx:an)=>(gP mc mx).map fun mr=>(mr,mc)
abbrev FE:=fun(mc:aw) (mx:an)=>(f7 mc mx).map fun mr=>(mr,mc)
abbrev FF:=fun(mc:aw) (mx:an)=>(fG mc mx).map fun mr=>(mr,mc)
abbrev FC:=fun(mc:aw) (mx:an)=>(gN mc mx).map fun mr=>(mr,mc)
abbrev FB:=fun(mc:aw) (mx:an)=>(gO mc mx).map fun mr=>(mr,mc)
abbrev DU:=ge (ge (ge (ge (ge (ge (ge (ge ([]:List (Int×(aw->an->Option (((List Int)×Bool)×aw)))) (1:Int) Fz) (2:Int) Fy) (3:Int) FD) (4:Int) FA) (5:Int) FE) (6:Int) FF) (7:Int) FC) (8:Int) FB
abbrev th:=(⟨[]⟩:bB)
abbrev fQ:=(⟨[]⟩:af)
abbrev vm:=(⟨(0:Int),(0:Int),(0:Int),(0:Int),[],false,fQ,[],[],[],[],(0:Int)⟩:an)
abbrev rW:=(⟨th,vm,[]⟩:ay)
abbrev ce:=rI .i64
abbrev sM:=fun(x:(List Int)×Bool)=>tT [jT x.1,ec x.2]
abbrev r9:=fun(x:an)=>[X ap x]
abbrev A8:=(⟨(0:Int),(0:Int),(0:Int),[]⟩:bT)
abbrev A6:=fun(x:ay×Int)=>tT [X al x.1,bX x.2]
abbrev lM:=(-1:Int)
abbrev GI:=(⟨(1:Int),lM,lM,(1:Int),[(2:Int)],false,fQ,[],[],[],[],(0:Int)⟩:an)
abbrev GH:=(⟨(1:Int),lM,lM,(0:Int),[(2:Int)],false,fQ,[],[],[],[],(0:Int)⟩:an)
abbrev A5:=fun(x:ay×Bool)=>[X al x.1,ec x.2]
abbrev qB:=fun(x:Bool)=>ec x
abbrev nS:=([]:List af)
abbrev rd:=eY hf
abbrev DQ:=fun(x:aj×(List af))=>[X ai x.1,X rd x.2]
abbrev DP:=fun(x:aj×(List af))=>[X ai x.1,eE (hf) x.2]
abbrev Cc:=(⟨(1:Int),(0:Int),(0:Int),[]⟩:bT)
abbrev xJ:=([]:List aj)
abbrev A9:=aM none 0 (xJ.length)
abbrev DO:=fun(x:aj×(List Int))=>[X ai x.1,jT x.2]
abbrev DN:=fun(x:af×Int)=>tT [X hf x.1,X ce x.2]
abbrev DM:=fun(x:af×Int)=>tT [X hf x.1,bX x.2]
abbrev nR:=Ix .i64
abbrev r8:=eY ce
abbrev Fx:=fun(x:aj×(List Int))=>[X ai x.1,X r8 x.2]
abbrev tg:=([]:List Int)
abbrev DL:=fun(x:Int×Int)=>tT [bX x.1,bX x.2]
abbrev Fw:=(⟨(16:Int),(0:Int),(0:Int),(0:Int),A8⟩:aj)
abbrev Cb:=fun(x:ne)=>[X gT x]
abbrev DK:=fun(x:aj)=>[X ai x]
abbrev Fv:=fun(x:Int×Int)=>tT [X ce x.1,X ce x.2]
abbrev vl:=eY ap
abbrev DI:=fun(x:af)=>[X hf x]
abbrev Ca:=fun(x:Int)=>[bX x]
abbrev vk:=eY al
abbrev zd:=([]:List ay)
abbrev wC:=kE ce 2
abbrev DH:=fun(x:Bool)=>X rB x
abbrev Fu:=sU (fun y:Bool=>ec y)
abbrev A7:=kE rd 3
abbrev DG:=([]:List an)
set_option maxRecDepth 100000

def EE k{R}(h:sX k=some R):cj bf 126 [bX k] (ec R):=by
 exact de Tryz.func126 J<|T<|cu<|bO<|aW J<|cb J<|bg J<|aV J (cB J)<|aV J (i6 J)<|fg J<|bg J<|aV J (cB J)<|aV J (i6 J)<|fg J<|bt J<|so h▸bl J J

def EF k{R}(h:jl k=some R):cj bf 125 [bX k] (ec R):=by
 exact de Tryz.func125 J<|T<|cu<|bO<|aW J<|da h HX (EE _) (bQ J) fun r h=>K (fV (D J))<|bt J<|so h▸bl J J

def Eu s f{R}(h:jX s f=some R):cj bf 148 [jT s,(jW bf Ca qB (fun(x:Int)=>f x))] (bX R):=by
 refine de Tryz.func148 J<|T<|cx<|bO<|ba<|bg J<|cM ed J<|K (bS hI)<|bO<|am<|br (k:=6) J fun hN=>bP ?_;refine aN (iw (hg:=fun ls i=>(s.drop i=ls)/\fA f ls i=some R) (Of:=fun _ i=>[]) (Gf:=fun _ i=>[(0,jT s),(1,(jW bf Ca qB (fun(x:Int)=>f x))),(7,f6 s),(8,bX (i:Int))]) (fun i h=>?_) (fun e tl ih i h=>?_) s 0 ⟨J,h⟩) (bk J)
 ·obtain⟨I,h⟩:=h
  exact dt I J<|au<|T<|dh<|so h▸bl J J
 ·obtain⟨I,h⟩:=h
  refine dr I J<|aF<|am<|aW J<|aP J<|aW J<|bg J<|bg J<|tW ed bR J (dm I) ?_;refine bn bR J<|cq h fun r q_r h=>K (mZ (args:=(fun(x:Int)=>[X ce x])) (res:=DH) (f:=(fun(x:Int)=>f x)) (x:=((e):Int)) (D J) q_r ⟨(D J),aX⟩)<|cw h J (fun h=>?_) (fun h=>?_)
  ·exact aW J<|bt J<|cZ<|ak<|cZ<|so h▸bl J J
  ·refine bH<|cP I hN J ?_;exact aY (aN (ih (i+1) ⟨cI I,h⟩) (bk J))

def AH s f{R}(h:fB s f=some R):cj bf 127 [jT s,(jW bf Ca qB (fun(x:Int)=>f x))] (ec R):=by
 exact de Tryz.func127 J<|T<|cu<|bO<|aW J<|bg J<|da h HN (Eu _ _) (bQ J) fun r h=>K (dB (D J) hI)<|bt J<|so h▸bl J J

def Hg(b:Nat)(ix:OI) c n{R}(h:ie c n=some R):df bf 91 [tV (aq b 0),X ap n] (cS b c ix) (fun _:OI=>tT [jT R.1,ec R.2]) (fun _=>(cS b c ix)):=by
 refine df.of Tryz.func91 J J J fun w0 S0=>?_;refine(show CG _ _ _ [bx (rH aZ [(1,aM (ix.h 0).1 (ix.h 0).2 c.kinds.length),(2,aM (ix.h 1).1 (ix.h 1).2 c.first.length)]) 102 b c,tip lK 23 (ix.h 0).1 (ix.h 0).2 c.kinds,tip ce 3 (ix.h 1).1 (ix.h 1).2 c.first] _ from ?_);refine T<|cA J<|gb ce<|cu<|bO<|T<|K (bF (show aD _ _ _ ((jW bf Ca qB (fun(x:Int)=>jl x)))from(GM HY fun x y h=>EF _ h)))<|bO<|T<|bw w9 qR bR J<|K (dB (D J) hI)<|bg J<|aI J (dv w9 qR J J)<|aI J (du bR J J)<|aI J (fun Z=>eO (ca J Z) hI)<|dq J<|bg J<|aI J (dv pM lu J J) ?_;refine aI J (du dJ J J)<|aI J (i5 ed J)<|aI J (fun Z=>dB (ca J Z) hI)<|dq J<|bg J<|aI J (dv pM lu J J)<|aI J (du dJ J J)<|aI J (i5 ed J)<|aI J (fun Z=>iK (ca J Z) hI)<|dq J<|aP J<|aF<|cq h fun t q_t h=>?_
 obtain⟨r,h1t,h0t⟩:=og q_t
 have q_rg:=fun V=>(h1t V).1
 refine eC (ts:=[_,_,_,_,_,_,_,_,_,_,_,_]) mixed J J
  ⟨lV 3 J J (jK pM lu J J),
  ⟨ga 0 dJ J J,
  ⟨gK J J,
  ⟨dg 30 2 J J (jJ J),
  ⟨nk 3 31 3 J J J (bN J J J J (fun Z=>jK pM lu J J)),
  ⟨ek 32 4 31 3 J J J (bN J J J J (fun Z=>d6 dJ J J (ca J Z))),
  ⟨nk 6 31 3 J J J (bN J J J J (fun Z=>jJ J)),
  ⟨sN 33 5 34 6 31 3 J J J J (bN J J J J (fun Z=>cg Fl (AH _ _ (q_rg Z)) ⟨(ca J Z),(ca J Z),aX⟩)),
  ⟨ek 35 7 31 3 J J J (bN J J J J (fun Z=>fV (ca J Z))),
  ⟨eI 31 3 36 8 J J J (ef (D J) (fun V=>(ca J V)) (fun V=>(h1t V).2) h0t),
  ⟨dg 29 1 J J (re J),
  ⟨dg 37 9 J J (re J),
  aX⟩⟩⟩⟩⟩⟩⟩⟩⟩⟩⟩⟩ ?_
 exact au<|hJ<|aA<|aA<|aA<|so h▸fZ (ts:=[jT n.Kinds,ec t]) (rvs:=[.tmp 4,.tmp 5]) J J ⟨aS J,aS J,aX⟩ nh J J

def C1 n{R}(h:mu n=some R):ev bf 149 [tV (.slice none 0 0),bX n] false ce 3 R:=by
 refine ev.of Tryz.func149 J J J fun w0 S0=>T<|bE false ce 3<|K (bF pl)<|bO ?_;refine BU (hg:=kJ n=some R) (Of:=[]) (Gf:=[(0,tV (.slice none 0 0)),(1,bX n)]) (fun h=>?_) (fun ae=>?_)
 ·skip
  refine BS (hg:=fun s l c=>hU s=some R) (Of:=fun s l c=>[dX ce 3 l c s]) (Gf:=fun s l c=>[(0,n9 l c s)]) (fun s l c h=>?_) (fun K1=>?_)
  ·skip
   exact aW J<|bt J<|so h▸f8 J J
  ·skip
   refine aW J<|bg J<|K (vQ ed (D J))<|bg J<|K (vP ed (D J))<|K (cY (D J) (D J))<|K (cY (D J) (D J))<|aP J<|aW J<|K (mf (D J) hI)<|cw h J (fun h=>?_) (fun h=>?_)
   ·refine aC<|bg J<|bg J<|K (vQ ed (D J))<|K (ym ed bR (D J) (D J))<|bg J<|cq h fun u q_u h=>cq h fun mk q_mk h=>Ag (yN (r:=ce) (x:=(0:Int)) bR J J J J ed mL (fun _=>J) (D J) (D J) (CK q_u) q_mk) J fun i=>bg J<|K (vP ed (D J))<|cq h fun y q_y h=>K (kr ed bR J (.head _) (D J) (D J) q_y)<|sH q_y<|f9 J<|bc ?_;exact bY (K1 y (i.h 0).1 (i.h 0).2 h) (bk J)
   ·refine bH<|Dz false ce 3 ?_;exact bY (K1 tg none 0 h) (bk J)
 ·skip
  refine aW J<|K (eO (D J) hI)<|cw h J (fun h=>?_) (fun h=>?_)
  ·refine aC ?_;exact(nn h).elim
  ·refine bH<|aH ?_;exact bY (ae h) (bk J)
def C3 slices{R}(h:iJ slices=some R):ev bf 128 [eE (lK) slices] false ce 3 R:=by
 refine ev.of Tryz.func128 J J J fun w0 S0=>T<|bE false ce 3<|K (bF pl)<|bO<|T<|cx<|bO<|ba<|bg J<|cM oy J<|K (bS hI)<|bO<|am<|br (k:=9) J fun hN=>bP<|jD ?_;refine aN (gv (hg:=fun ls i size=>(slices.drop i=ls)/\gB slices ls size=some R) (Of:=fun _ i size=>[]) (Gf:=fun _ i size=>[(0,eE (lK) slices),(3,bX size),(9,eE (lK) slices),(10,f6 slices),(11,bX (i:Int))]) (fun i size h=>?_) (fun e tl ih i size h=>?_) slices 0 (0:Int) ⟨J,h⟩) (bk J)
 ·obtain⟨I,h⟩:=h
  refine dt I J<|au<|aW J<|mM h HM (C1 _) ⟨hV,(D J),aX⟩ fun r h l c=>aP J<|ba ?_;refine bg J<|cM oy J<|K (bS hI)<|bO<|am<|br (k:=25) J fun hN1=>bP ?_;refine aN (kY (hg:=fun ls1 i1 newslice l1 c1=>(slices.drop i1=ls1)/\gA ls1 newslice=some R) (Of:=fun _ i1 newslice l1 c1=>[dX ce 3 l1 c1 newslice]) (Gf:=fun _ i1 newslice l1 c1=>[(6,n9 l1 c1 newslice),(25,eE (lK) slices),(26,f6 slices),(27,bX (i1:Int))]) (fun i1 newslice l1 c1 h=>?_) (fun e1 tl1 ih1 i1 newslice l1 c1 h=>?_) slices 0 r l c ⟨J,h⟩) (bk J)
  ·obtain⟨hx1,h⟩:=h
   exact dt hx1 J<|au<|aW J<|bt J<|so h▸f8 J J
  ·obtain⟨hx1,h⟩:=h
   refine dr hx1 J<|aF<|am<|T<|ej oy dJ J (dm hx1)<|aP J<|aC<|bg J<|bg J<|cq h fun newslice1 q_newslice1 h=>dd bR J J J J ed J J (D J) (D J) q_newslice1 fun l2 c2=>?_;refine f9 J<|bc<|cP hx1 hN1 J ?_;exact aY (aN (ih1 (i1+1) newslice1 l2 c2 ⟨cI hx1,h⟩) (bk J))
 ·obtain⟨I,h⟩:=h
  refine dr I J<|aF<|am<|T<|ej oy dJ J (dm I)<|aP J<|aW J<|bg J<|cM ed J ?_;refine K (eh (D J) (D J))<|aP J<|aW J<|K (eO (D J) hI)<|cw h J (fun h=>?_) (fun h=>?_)
  ·refine aC ?_;exact(nn h).elim
  ·refine bH<|cP I hN J ?_;exact aY (aN (ih (i+1) (IntKind.i64.wrap (size+(e.length:Int))) ⟨cI I,h⟩) (bk J))
def ED slices{R}(h:iJ slices=some R):cj bf 128 [eE (lK) slices] (jT R):=(C3 _ h).spec

def xb tag{R}(h:lw tag=some R):cj bf 79 [bX tag] (bX R):=by
 refine de Tryz.func79 J<|T<|cx<|bO<|aF<|am<|aW J<|cb J<|bg J<|aV J (cB J)<|aV J (i6 J)<|fg J<|aP J<|jH h J (fun h=>?_) (fun h=>?_)
 ·exact T<|dh<|cZ<|so h▸bl J J
 ·refine aW J<|K (dB (D J) hI)<|bg J<|aI J (cB J)<|aI J (fun Z=>iK (ca J Z) hI)<|dq J<|aP J<|jH h J (fun h=>?_) (fun h=>?_)
  ·exact T<|dh<|cZ<|so h▸bl J J
  ·refine aW J<|K (dB (D J) hI)<|bg J<|aI J (cB J)<|aI J (fun Z=>iK (ca J Z) hI)<|dq J<|aP J<|jH h J (fun h=>?_) (fun h=>?_)
   ·exact T<|dh<|cZ<|so h▸bl J J
   ·exact bH<|aO<|au<|T<|dh<|so h▸bl J J

def Eo v{R}(h:pw v=some R):cj bf 155 [X cH v] (X cH R):=by
 refine de Tryz.func155 J<|T<|nO (D J) J fun b=>av jM gQ J fun b1=>bO<|ba<|bD 0 oS J<|K (be bR J J kj (.tail _ (.head _)) (D J))<|bO ?_;refine wr (hg:=fun v1=>fR v1=some R) (Of:=fun v1=>[bx cH 61 b v1,bx cH 61 b1 A8]) (Gf:=fun v1=>[(1,tV (aq b 0)),(2,tV (aq b1 0))]) (fun v1 h=>?_) (fun ae=>?_)
 ·skip
  exact au<|T<|K (be jM J J bC (.head _) (D J))<|aU<|aR jM aa J<|aB 2 J<|cU<|aH<|so h▸eD J jM J J J
 ·skip
  refine aF<|am<|aF<|am<|aF ?_;refine wr (hg:=fun v2=>kI v2=some R) (Of:=fun v2=>[bx cH 61 b v2,bx cH 61 b1 A8]) (Gf:=fun v2=>[(1,tV (aq b 0)),(2,tV (aq b1 0))]) (fun v2 h=>?_) (fun K1=>?_)
  ·skip
   refine au<|T<|bD 0 oS J<|cy bR J mO J (D J) hI<|bO<|d8<|bA J<|ax<|bA J<|ax<|cE ?_;exact bY (ae (bT.mk (0:Int) v2.N v2.U v2.S) h) (bk J)
  ·skip
   refine aF ?_;refine sJ (hg:=kH v=some R) (Of:=[bx cH 61 b v,bx cH 61 b1 A8]) (Gf:=[(1,tV (aq b 0)),(2,tV (aq b1 0))]) (fun h=>?_) (fun K2=>?_)
   ·skip
    refine au<|aC<|bD 1 pL J<|cy DZ J oC J (D J) hI<|bc<|aO ?_;exact bY (K1 (bT.mk v.Kind (0:Int) v.U v.S) h) (bk J)
   ·skip
    refine aF<|am<|aF<|ba<|cb J<|aP J<|jH h J (fun h=>?_) (fun h=>?_)
    ·refine d8<|ax<|ax<|cE<|au<|T<|bD 1 pL J<|K (be DZ J J lr (.tail _ (.head _)) (D J))<|gk J<|bg J<|aI J (fun Z=>pr 1 pL J J J)<|aI J (fun Z=>be DZ J J lr (.tail _ (.head _)) (ca J Z))<|aI J (pu J)<|dq J<|cw h J (fun h=>?_) (fun h=>?_)
     ·refine d8<|bA J<|ax<|bA J<|ax<|bA J<|ax<|bA J<|ax<|cE<|bm ?_;exact bY (ae v h) (bk J)
     ·refine bH<|aO<|bm ?_;exact bY (K2 h) (bk J)
    ·refine gg<|ba<|cb J<|aP J<|jH h J (fun h=>?_) (fun h=>?_)
     ·refine d8<|ax<|ax<|bA J<|ax<|cE<|bm ?_;exact bY (K2 h) (bk J)
     ·refine gg<|ba<|cb J<|aP J<|jH h J (fun h=>?_) (fun h=>?_)
      ·refine d8<|ax<|ax<|bA J<|ax<|bA J<|ax<|cE<|bm ?_;exact bY (K1 v h) (bk J)
      ·refine gg<|ba<|cb J<|aP J<|jH h J (fun h=>?_) (fun h=>?_)
       ·refine d8<|ax<|ax<|bA J<|ax<|bA J<|ax<|bA J<|ax<|cE<|au ?_;refine eT (hg:=fun v3=>kG v3=some R) (Of:=fun v3=>[bx cH 61 b v3,bx cH 61 b1 A8]) (Gf:=fun v3=>[(1,tV (aq b 0)),(2,tV (aq b1 0))]) (fun v3 h=>?_) (fun K3=>?_)
        ·skip
         refine d8<|bA J<|ax<|cE ?_;exact bY (ae v3 h) (bk J)
        ·skip
         refine T<|bD 3 qS J<|K (be DC J J jm (.tail _ (.head _)) (D J))<|K (wR AY (D J))<|K (iK (D J) hI)<|cw h J (fun h=>?_) (fun h=>?_)
         ·refine aC<|bD 0 oS J<|aU<|cy bR J mO J (D J) hI<|bD 3 qS J<|cy DC J ui J (D J) hS<|bc ?_;exact bY (K3 (bT.mk (0:Int) v.N v.U ([])) h) (bk J)
         ·refine bH<|bm ?_;exact bY (K3 v h) (bk J)
       ·refine gg<|T<|cb J<|aP J<|jH h J (fun h=>?_) (fun h=>?_)
        ·refine d8<|ax<|bA J<|ax<|bA J<|ax<|bA J<|ax<|bA J<|ax<|cE<|au<|T<|bD 0 oS J<|aU<|cy bR J mO J (D J) hI<|bD 1 pL J<|cy DZ J oC J (D J) hI<|bD 2 w7 J<|cy Ch J zq J (D J) hI<|bO<|d8 ?_;refine cE ?_;exact bY (ae (bT.mk (0:Int) (0:Int) (0:Int) v.S) h) (bk J)
        ·refine gg<|d8<|bA J<|ax<|bA J<|ax<|bA J<|ax<|bA J<|ax<|bA J<|ax<|cE<|bm ?_;exact bY (ae v h) (bk J)

def Ex v{R}(h:nm v=some R):cj bf 142 [X cH v] (bX R):=by
 refine de Tryz.func142 J<|T<|cA J<|cx<|bO<|ba<|bn jM J<|da h HG (Eo _) (bQ J) fun r h=>K (bz jM yD gQ J)<|K (wO zT (D J) (D J))<|cw h J (fun h=>?_) (fun h=>?_)
 ·exact T<|dh<|ak<|so h▸bl J J
 ·exact gg<|T<|dh<|so h▸bl J J

def EL v{R}(h:nl v=some R):cj bf 114 [X cH v] (ec R):=by
 exact de Tryz.func114 J<|T<|cA J<|cu<|bO<|T<|bn jM J<|da h HQ (Ex _) (bQ J) fun r h=>cb J<|bg J<|aI J (dv oS kj J J)<|aI J (du bR J J)<|aI J (pu J)<|dq J<|bt J<|so h▸bl J J

def F0 n{R}(h:nL n=some R):cj bf 80 [X ai n] (ec R):=by
 refine de Tryz.func80 J<|T<|cA J<|cu<|bO<|ba<|bw fW cJ bR J<|bO<|am<|T<|cb J<|aP J<|jH h J (fun h=>?_) (fun h=>?_)
 ·exact T<|bw oR ft jM J<|da h H7 (EL _) (bQ J) fun r h=>bg J<|aI J (dv gZ dk J J)<|aI J (du bR J J)<|aI J (i6 J)<|dq J<|bt J<|cZ<|so h▸bl J J
 ·refine T<|cb J<|aP J<|jH h J (fun h=>?_) (fun h=>?_)
  ·exact T<|bw oR ft jM J<|K (bz jM yD gQ J)<|K (p4 zT (D J) (D J))<|bg J<|aI J (dv gZ dk J J)<|aI J (du bR J J)<|aI J (fun Z=>dB (ca J Z) hI)<|dq J<|bg J<|aI J (dv gZ dk J J)<|aI J (du bR J J)<|aI J (fun Z=>eO (ca J Z) hI)<|dq J<|bt J<|cZ<|so h▸bl J J
  ·exact bH<|aO<|au<|T<|bw oR ft jM J<|K (bz jM yD gQ J)<|K (p4 zT (D J) (D J))<|bg J<|aI J (dv gZ dk J J)<|aI J (du bR J J)<|aI J (i6 J)<|dq J<|bt J<|so h▸bl J J

def CT e{R}(h:lU e=some R):cj bf 54 [X hf e] (tT [jT R.1,ec R.2]):=by
 refine de Tryz.func54 J<|T<|cA J<|gb ce<|cu<|bO<|T<|bE false ce 3<|K (bF pl)<|bE false ce 3<|K (bF pl)<|bO<|ba<|bw bZ bL ee J<|cM hM J<|K (bS hI)<|bc ?_;refine au<|am<|br (k:=15) J fun hN=>bP<|cr ?_;refine aN (yX (hg:=fun ls i all l c open1 l1 c1=>(e.Nodes.drop i=ls)/\fX ls i all open1=some R) (Of:=fun _ i all l c open1 l1 c1=>[dX ce 3 l c all,dX ce 3 l1 c1 open1]) (Gf:=fun _ i all l c open1 l1 c1=>[(4,n9 l c all),(5,n9 l1 c1 open1),(15,eE (ai) e.Nodes),(16,f6 e.Nodes),(17,bX (i:Int))]) (fun i all l c open1 l1 c1 h=>?_) (fun e1 tl ih i all l c open1 l1 c1 h=>?_) e.Nodes 0 tg none 0 tg none 0 ⟨J,h⟩) (bk J)
 ·obtain⟨I,h⟩:=h
  refine dt I J<|au<|aW J<|bg J<|K (dD ed (.tail _ (.head _)) (D J))<|cb J<|bg J<|aI J (cB J)<|aI J (fun Z=>dD ed (.head _) (ca J Z))<|aI J (fun Z=>iK (ca J Z) hI)<|dq J ?_;exact f9 J<|bt J<|kx<|dz 4 J<|dz 84 J<|dz 2 J<|iG 2 J<|aH<|aH<|so h▸dE J J J
 ·obtain⟨I,h⟩:=h
  refine dr I J<|aF<|am<|aW J<|ej hM cO J (dm I)<|av cO dS J fun b=>f9 J<|aR cO aa J<|aB 7 J<|bO<|aF ?_;refine aC<|bw fW cJ bR J<|da h ET (xb _) (bQ J) fun r h=>aP J<|ba<|bg J<|K (eO (D J) hI)<|bg J<|aV J (cB J)<|aV J (cB J)<|aV J (fun Z=>dD ed (.tail _ (.head _)) (ca J Z))<|aV J (fun Z=>mf (ca J Z) (ca J Z))<|fg J<|bg J<|cq h fun t q_t h=>aV J (fun Z=>lc cO J J) ?_
  obtain⟨r1,h1t,h0t⟩:=og q_t
  have q_r1g:=fun V=>(h1t V).1
  refine aV J (fun Z=>cg IU (F0 _ (q_r1g Z)) ⟨(ca J Z),aX⟩)<|aV J (pt J)<|K (jk (D J) (fun V=>(ca J (sw V))) (fun V=>(h1t V).2) h0t)<|cw h J (fun h=>?_) (fun h=>?_)
  ·exact T<|gb ce<|cu<|cU<|ak<|cZ<|ak<|cZ<|aH<|aH<|so h▸dE J J J
  ·refine gg<|aW J<|bg J<|K (dD ed (.tail _ (.head _)) (D J))<|bg J<|K (cY (D J) (D J))<|cq h fun y q_y h=>K (lP ed bR J (.tail _ (.head _)) (D J) (D J) q_y)<|kX (.tail _ (.head _)) q_y fun hv=>aP J<|T<|K (p5 (r:=ce) (ys:=[lM,lM]) (xs:=[.const (.int .i64 (-1)),.const (.int .i64 (-1))]) tL bR J rg J J ⟨hI,hI,aX⟩)<|av (r:=wC) (x:=(List.replicate 2 (0:Int))) rg (fun _=>rM (r:=ce) 2 (fun _=>J) _) J fun b1=>aR rg aa J<|bO<|T ?_;refine bg J<|aP J<|ba<|bg J<|K (D5 ed (.tail _ (.tail _ (.head _))) q_y (D J))<|K (bS hI)<|bO<|am ?_
   have hN1:=hv.2
   refine bP<|dp<|dp ?_;refine aN (ou (hg:=fun ls1 i1 first at1=>(y.drop i1=ls1)/\hD (fX tl) i e1 all open1 r ls1 i1 first at1=some R) (Of:=fun _ i1 first at1=>[dX ce 3 l c all,dX ce 3 l1 c1 open1,bx wC 116 b1 at1]) (Gf:=fun _ i1 first at1=>[(4,n9 l c all),(5,n9 l1 c1 open1),(6,bX (i:Int)),(7,bp ai e1),(8,bX r),(10,tV (aq b1 0)),(11,bX first),(15,eE (ai) e.Nodes),(16,f6 e.Nodes),(17,bX (i:Int)),(46,tV (jU 1 l1 c1 (IntKind.i64.wrap ((open1.length:Int)-r)).toNat y.length)),(47,f6 y),(48,bX (i1:Int))]) (fun i1 first at1 h=>?_) (fun e2 tl1 ih1 i1 first at1 h=>?_) y 0 (i:Int) ([lM,lM]) ⟨J,h⟩) (bk J)
   ·obtain⟨hx1,h⟩:=h
    refine dt hx1 J<|au<|ba<|K (be rg J J bC (.tail _ (.tail _ (.head _))) (D J))<|bw gH eb bR J<|bw gG ea bR J<|K (p5 (r:=ce) (ys:=[e1.L,e1.R]) (xs:=[.tmp 65,.tmp 67]) tL bR J rg J J ⟨(D J),(D J),aX⟩)<|K (wO Hs (D J) (D J))<|bc ?_;refine au<|jH h J (fun h=>?_) (fun h=>?_)
    ·exact T<|gb ce<|cu<|cU<|ak<|cZ<|ak<|cZ<|aH<|aH<|aH<|so h▸dE J J J
    ·refine gg<|aW J<|bg J<|K (aQ (r:=ce) (ys:=[first]) (xs:=[.tmp 71]) ed bR J J J J J ⟨(D J),aX⟩)<|cq h fun all1 q_all1 h=>dd bR J J J J ed J J (D J) (D J) q_all1 fun l2 c2=>aP J<|aC<|bg J<|bg J<|K (dD ed (.tail _ (.head _)) (D J))<|bg J<|K (cY (D J) (D J))<|cq h fun y1 q_y1 h=>K (kr ed bR J (.tail _ (.head _)) (D J) (D J) q_y1)<|bg J<|K (aQ (r:=ce) (ys:=[(i:Int)]) (xs:=[.tmp 80]) ed bR J J J J J ⟨(D J),aX⟩)<|aU<|sH q_y1 ?_;refine cq h fun open2 q_open2 h=>dd bR J J J J ed J J (D J) (D J) q_open2 fun l3 c3=>f9 J<|bc<|cP I hN J<|aA<|aH<|bm ?_;exact aY (aN (ih (i+1) all1 l2 c2 open2 l3 c3 ⟨cI I,h⟩) (bk J))
   ·obtain⟨hx1,h⟩:=h
    refine dr hx1 J<|aF<|am<|aW J<|K (vv ed bR J (.tail _ (.head _)) q_y (D J) (D J) (dm hx1))<|K (cD (r:=ce) (i:=((IntKind.i64.wrap ((open1.length:Int)-r))+(i1:Int))) (foff:=0) bR J J bC J (.tail _ (.head _)) (uc q_y (dm hx1)).1 (D J))<|f9 J<|aP J<|cq h fun e3 q_e3 h=>cq h fun e4 q_e4 h=>cq h fun ar q_ar h=>?_
    refine gw 10 [tc (bX (i1:Int)),tc (bX e2),tc (bX first),tc (n9 l c all),tc (bX e2),tc (tV (gu l (e2.toNat*1+0))),tc (bX e3),tc (bX (min first e3)),tc (tV (aq b1 ((i1:Int).toNat*1))),tc (qF)] [false,false,false,false,false,false,false,false,false,true] [fun _=>[dX ce 3 l c all,dX ce 3 l1 c1 open1,bx wC 116 b1 at1],fun sg=>[bx wC 116 b1 ar,dX ce 3 l c all,dX ce 3 l1 c1 open1]] J mixed J J J J J
     ⟨⟨[⟨12,fun _=>X ce (i1:Int),none⟩],_,0,0,J,⟨(fun _=>J),aX⟩,J,J,J,J,J,fun _ sg _ _=>ac J (jJ J)⟩,
     ⟨⟨[⟨13,fun _=>X ce e2,none⟩],_,0,0,J,⟨(fun _=>J),aX⟩,J,J,J,J,J,fun _ sg _ _=>ac J (jJ J)⟩,
     ⟨⟨[⟨11,fun _=>X ce first,none⟩],_,0,1,J,⟨(fun _=>J),aX⟩,J,J,J,J,J,fun _ sg _ _=>ac J (jJ J)⟩,
     ⟨⟨[⟨4,fun _=>tV (aM l c all.length),none⟩],_,0,1,J,⟨(fun _=>J),aX⟩,J,J,J,J,J,fun _ sg _ _=>ac J (jJ J)⟩,
     ⟨⟨[⟨13,fun _=>X ce e2,none⟩],_,0,1,J,⟨(fun _=>J),aX⟩,J,J,J,J,J,fun _ sg _ _=>ac J (jJ J)⟩,
     ⟨⟨[⟨56,fun _=>tV (aM l c all.length),some 3⟩,⟨57,fun _=>X ce e2,some 4⟩],_,0,1,J,⟨(fun _=>J),(fun _=>J),aX⟩,J,J,J,J,J,vn (fun sg=>ac J (bI ed bR (.head _) (D J) (D J) q_e3)) (qD (fun sg=>ac J (bI ed bR (.tail _ (.head _)) (D J) (D J) q_e3)))⟩,
     ⟨⟨[⟨58,fun _=>tV (gu l (e2.toNat*1+0)),some 5⟩],_,0,1,J,⟨(fun _=>J),aX⟩,J,J,J,J,J,vn (fun sg=>ac J (cD (r:=ce) (i:=e2) (foff:=0) bR J J bC J (.head _) q_e3 (D J))) (qD (fun sg=>ac J (cD (r:=ce) (i:=e2) (foff:=0) bR J J bC J (.tail _ (.head _)) q_e3 (D J))))⟩,
     ⟨⟨[⟨55,fun _=>X ce first,some 2⟩,⟨59,fun _=>X ce e3,some 6⟩],_,0,1,J,⟨(fun _=>J),(fun _=>J),aX⟩,J,J,J,J,J,fun _ sg _ _=>ac J (wQ (D J) (D J))⟩,
     ⟨⟨[⟨10,fun _=>tV (aq b1 0),none⟩,⟨53,fun _=>X ce (i1:Int),some 0⟩],_,0,0,J,⟨(fun _=>J),(fun _=>J),aX⟩,J,J,J,J,J,qD (fun sg=>ac J (cm tL bR (.tail _ (.tail _ (.head _))) (D J) (D J) q_e4))⟩,
     ⟨⟨[⟨61,fun _=>tV (aq b1 ((i1:Int).toNat*1)),some 8⟩,⟨54,fun _=>X ce e2,some 1⟩],_,J,⟨(fun _=>J),(fun _=>J),aX⟩,J,J,J,fun sg=>ck J (EffOK.fr2 (zU bR J q_e4 (so q_ar) (D J) (D J)))⟩,
     aX⟩⟩⟩⟩⟩⟩⟩⟩⟩⟩ (fun sg=>?_)
    refine(show RG _ _ _ _ [_,_,_] _ from ?_);refine f9 J<|bc<|cP hx1 hN1 J<|aA<|aA ?_;exact aY (aN (ih1 (i1+1) (min first e3) ar ⟨cI hx1,h⟩) (bk J))

end Go.Proofs.YtbmmihfagmchaaaGreat

