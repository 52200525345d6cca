/- db of this claim: P10. -/
import Derived.Test.YtbmmihfagmchaaaGreatRaT
import Derived.Test.YtbmmihfagmchaaaGreatRaP9
set_option linter.all false
namespace Go.Proofs.YtbmmihfagmchaaaGreat
open Go
set_option maxRecDepth 100000

def CY a1 b{R}(h:mS a1 b=some R):cj bf 21 [X hf a1,X hf b] (ec R):=by
 refine de Tryz.func21 J<|T<|cA J<|cA J<|cu<|bO<|ba<|bw bZ bL ee J<|cM hM J<|bw bZ bL ee J<|cM hM J<|K (ia (D J) (D J))<|cw h J (fun h=>?_) (fun h=>?_)
 ·exact T<|cu<|cU<|ak<|so h▸bl J J
 ·refine gg<|ba<|bw bZ bL ee J<|cM hM J<|K (bS hI)<|bO<|am<|br (k:=14) J fun hN=>bP ?_;refine aN (iw (hg:=fun ls i=>(a1.Nodes.drop i=ls)/\jY b ls i=some R) (Of:=fun _ i=>[]) (Gf:=fun _ i=>[(2,bp hf a1),(3,bp hf b),(15,f6 a1.Nodes),(16,bX (i:Int))]) (fun i h=>?_) (fun e tl ih i h=>?_) a1.Nodes 0 ⟨J,h⟩) (bk J)
  ·obtain⟨I,h⟩:=h
   exact dt I J<|au<|T<|cu<|cU<|so h▸bl J J
  ·obtain⟨I,h⟩:=h
   refine dr I J<|aF<|am<|aW J<|aP J<|aF<|cq h fun e1 q_e1 h=>?_
   refine eC (ts:=[_,_,_,_,_,_,_,_,_,_,_]) mixed J J
    ⟨lV 2 J J (jK bZ bL J J),
    ⟨ga 0 ee J J,
    ⟨gK J J,
    ⟨eI 20 1 21 2 J J J (DV hM cO J J J (dm I)),
    ⟨ga 3 cO J J,
    ⟨lV 3 J J (jK bZ bL J J),
    ⟨ga 5 ee J J,
    ⟨gK J J,
    ⟨eI 25 6 26 7 J J J (DV hM cO J J J q_e1),
    ⟨ga 8 cO J J,
    ⟨eI 23 4 28 9 J J J (wO IC (D J) (D J)),
    aX⟩⟩⟩⟩⟩⟩⟩⟩⟩⟩⟩ ?_
   refine au<|jH h J (fun h=>?_) (fun h=>?_)
   ·exact T<|cu<|cU<|cZ<|ak<|cZ<|so h▸bl J J
   ·refine bH<|cP I hN J ?_;exact aY (aN (ih (i+1) ⟨cI I,h⟩) (bk J))

def Hk{R}(h:pH=some R):cj bf 6 [] (ec R):=by
 refine de Tryz.func6 J<|T<|cu<|bO<|T<|da h HD CZ trivial fun r h=>da h Jg (Gl _) (bQ J) fun r1 h=>bg J<|bM J J<|bM J J<|av cV dF J fun b=>aR cV aa J<|aB 1 J<|aP J<|T<|cq h fun r2 q_r2 h=>?_;refine K (cg HD (CZ q_r2) trivial)<|da h Jf (Gk _) (bQ J) fun r3 h=>bg J<|bM J J<|bM J J<|bM J J<|av cV dF J fun b1=>aR cV aa J<|aB 3 J<|f9 J<|aP J<|aF<|cq h fun t q_t h=>?_
 obtain⟨e,h1t,h0t⟩:=og q_t
 have q_eg:=fun V=>(h1t V).1
 refine cq h fun t1 q_t1 h=>?_
 obtain⟨e1,h1t1,h0t1⟩:=og q_t1
 have q_e1g:=fun V=>(h1t1 V).1
 refine cq h fun t2 q_t2 h=>?_
 obtain⟨e2,h1t2,h0t2⟩:=og q_t2
 have q_e2g:=fun V=>(h1t2 V).1
 refine cq h fun t3 q_t3 h=>?_
 obtain⟨e3,h1t3,h0t3⟩:=og q_t3
 have q_e3g:=fun V=>(h1t3 V).1
 obtain⟨r4,h1t3⟩:=Ij (fun V=>(h1t3 V).2)
 have q_r4g:=fun V=>(h1t3 V).1
 obtain⟨r5,h1t3⟩:=Ij (fun V=>(h1t3 V).2)
 have q_r5g:=fun V=>(h1t3 V).1
 refine eC (ts:=[_,_,_,_,_,_,_,_,_,_,_,_,_,_,_,_,_,_,_,_,_,_,_,_,_,_,_,_,_,_,_,_,_,_,_,_,_,_,_,_,_,_,_,_,_,_,_,_,_]) mixed J J
  ⟨gK J J,
  ⟨dg 17 0 J J (GJ J),
  ⟨dg 18 1 J J (jJ J),
  ⟨nk 5 19 2 J J J (bN J J J J (fun Z=>jJ J)),
  ⟨ek 20 3 19 2 J J J (bN J J J J (fun Z=>fF (ca J Z) hI)),
  ⟨eI 19 2 21 4 J J J (Ft J J),
  ⟨dg 22 5 J J (jJ J),
  ⟨nk 4 23 6 J J J (bN J J J J (fun Z=>jJ J)),
  ⟨eI 23 6 24 7 J J J (Ft J J),
  ⟨dg 25 8 J J (jJ J),
  ⟨nk 1 26 9 J J J (bN J J J J (fun Z=>jK fv dT J J)),
  ⟨ek 27 10 26 9 J J J (bN J J J J (fun Z=>d6 lY J J (ca J Z))),
  ⟨ek 28 11 26 9 J J J (bN J J J J (fun Z=>fc kZ (ca J Z))),
  ⟨ek 29 12 26 9 J J J (bN J J J J (fun Z=>fF (ca J Z) hI)),
  ⟨eI 26 9 30 13 J J J (Ft J J),
  ⟨dg 31 14 J J (jJ J),
  ⟨nk 1 32 15 J J J (bN J J J J (fun Z=>jK fv dT J J)),
  ⟨ek 33 16 32 15 J J J (bN J J J J (fun Z=>d6 lY J J (ca J Z))),
  ⟨ek 34 17 32 15 J J J (bN J J J J (fun Z=>bj kZ dK J (ca J Z) hI (q_eg Z))),
  ⟨ek 35 18 32 15 J J J (bN J J J J (fun Z=>fE kP J er J (ca J Z))),
  ⟨ek 36 19 32 15 J J J (bN J J J J (fun Z=>d6 bR J J (ca J Z))),
  ⟨ek 37 20 32 15 J J J (bN J J J J (fun Z=>fF (ca J Z) hI)),
  ⟨eI 32 15 38 21 J J J (ef (D J) (fun V=>(ca J V)) (fun V=>(h1t V).2) h0t),
  ⟨dg 39 22 J J (jJ J),
  ⟨nk 1 40 23 J J J (bN J J J J (fun Z=>jK fv dT J J)),
  ⟨ek 41 24 40 23 J J J (bN J J J J (fun Z=>d6 lY J J (ca J Z))),
  ⟨ek 42 25 40 23 J J J (bN J J J J (fun Z=>bj kZ dK J (ca J Z) hI (q_e1g Z))),
  ⟨ek 43 26 40 23 J J J (bN J J J J (fun Z=>fE kP J er J (ca J Z))),
  ⟨ek 44 27 40 23 J J J (bN J J J J (fun Z=>d6 bR J J (ca J Z))),
  ⟨ek 45 28 40 23 J J J (bN J J J J (fun Z=>fF (ca J Z) hI)),
  ⟨eI 40 23 46 29 J J J (ef (D J) (fun V=>(ca J V)) (fun V=>(h1t1 V).2) h0t1),
  ⟨dg 47 30 J J (jJ J),
  ⟨nk 1 48 31 J J J (bN J J J J (fun Z=>jK fv dT J J)),
  ⟨ek 49 32 48 31 J J J (bN J J J J (fun Z=>d6 lY J J (ca J Z))),
  ⟨ek 50 33 48 31 J J J (bN J J J J (fun Z=>bj kZ dK J (ca J Z) hI (q_e2g Z))),
  ⟨ek 51 34 48 31 J J J (bN J J J J (fun Z=>fE kP J er J (ca J Z))),
  ⟨ek 52 35 48 31 J J J (bN J J J J (fun Z=>d6 bR J J (ca J Z))),
  ⟨ek 53 36 48 31 J J J (bN J J J J (fun Z=>fF (ca J Z) hI)),
  ⟨eI 48 31 54 37 J J J (ef (D J) (fun V=>(ca J V)) (fun V=>(h1t2 V).2) h0t2),
  ⟨dg 55 38 J J (jJ J),
  ⟨nk 1 56 39 J J J (bN J J J J (fun Z=>jK fv dT J J)),
  ⟨ek 57 40 56 39 J J J (bN J J J J (fun Z=>d6 lY J J (ca J Z))),
  ⟨ek 58 41 56 39 J J J (bN J J J J (fun Z=>bj kZ dK J (ca J Z) hI (q_e3g Z))),
  ⟨ek 59 42 56 39 J J J (bN J J J J (fun Z=>fE jS J eq J (ca J Z))),
  ⟨ek 60 43 56 39 J J J (bN J J J J (fun Z=>d6 aL J J (ca J Z))),
  ⟨zes 56 39 J J (bN J J J J (fun Z=>cg GB (zQ _ _ (q_r4g Z)) ⟨hI,hI,aX⟩)),
  ⟨sN 61 44 62 45 56 39 J J J J (bN J J J J (fun Z=>cg HC (CY _ _ (q_r5g Z)) ⟨(ca J Z),(ca J Z),aX⟩)),
  ⟨eI 56 39 63 46 J J J (ef (D J) (fun V=>(ca J V)) (fun V=>(h1t3 V).2) h0t3),
  ⟨dg 64 47 J J (re J),
  aX⟩⟩⟩⟩⟩⟩⟩⟩⟩⟩⟩⟩⟩⟩⟩⟩⟩⟩⟩⟩⟩⟩⟩⟩⟩⟩⟩⟩⟩⟩⟩⟩⟩⟩⟩⟩⟩⟩⟩⟩⟩⟩⟩⟩⟩⟩⟩⟩⟩ ?_
 exact au<|hJ<|so h▸bl J J

def Em l most{R}(h:jR l most=some R):ev bf 23 [eE (ai) l,bX most] false ai 63 R:=by
 exact ev.of Tryz.func23 J J J fun w0 S0=>T<|bE false ai 63<|K (bF pl)<|bO<|T<|eJ (r:=ai) (ys:=xJ) (xs:=[]) hM cO J J J J J trivial J fun l1 c=>bg J<|bg J<|cM hM J<|bg J<|K (wQ (D J) (D J))<|cq h fun y q_y h=>K (zE hM cO J (D J) (D J) q_y)<|cq h fun x q_x h=>dd cO J J J J hM J J (D J) (D J) q_x fun l2 c1=>bt J<|so h▸f8 J J
def Hj e{R}(h:nD e=some R):cj bf 7 [X hf e] (X hf R):=by
 refine de Tryz.func7 J<|T<|cA J<|av aL bU J fun b=>bO<|T<|bw bZ bL ee J<|mM h Jd (Em _ _) (bQ J) fun r h l c=>K (bz (y:=cc (⟨r⟩:af) (aM l c r.length)) aL pg iz (⟨_,_,_,_,_,J,np,J,(uH (D J)),J⟩))<|bE false ai 63<|av (r:=bW) (x:=cc fQ A9) aL iz J fun b1=>c8 (r' :=bW) aL J (gh J) J (D J) (D J)<|aU<|o3<|bO<|ba ?_;refine bD 0 bZ J<|K (eP ee dV (.head _) J (D J))<|K (dD hM (.tail _ (.head _)) (D J))<|K (bS hI)<|bO<|am<|d7 (.tail _ (.head _)) fun hN=>bP<|cr<|cr<|dp ?_;refine aN (gv (hg:=fun ls i out=>(r.drop i=ls)/\gY ls i out=some R) (Of:=fun _ i out=>[bx hf 27 b fQ,bx bW 27 b1 (cc out (aM l c out.Nodes.length)),dX ai 63 l c out.Nodes]) (Gf:=fun _ i out=>[(2,tV (aq b 0)),(3,tV (aq b1 0)),(12,f6 r),(13,bX (i:Int))]) (fun i out h=>?_) (fun e1 tl ih i out h=>?_) r 0 ({(⟨r⟩:af)with Nodes:=r}:af) ⟨J,h⟩) (bk J)
 ·obtain⟨I,h⟩:=h
  refine dt I J<|au<|T<|cn<|fi<|K (fq (q:=hf) (y:=out) aL J J J J (.tail _ (.tail _ (.head _))) (fun _ _ _ ho h=>fY (hZ ho (.head _)) h) (D J))<|aU<|aR aL aa J<|aB 2 J<|cU ?_;exact aH<|aH<|so h▸eD J aL J J J
 ·obtain⟨I,h⟩:=h
  refine dr I J<|aF<|am<|aW J<|aP J<|T<|bD 0 bZ J<|K (eP ee dV (.tail _ (.head _)) J (D J))<|bg J<|cq h fun e2 q_e2 h=>?_;refine K (bI hM cO (.tail _ (.tail _ (.head _))) (D J) (D J) q_e2)<|K (cd (o:=(i:Int).toNat*8+0) (n:=(i:Int).toNat*8+4) oR J (.tail _ (.tail _ (.head _))) q_e2 (D J) J)<|K (cd (o:=(i:Int).toNat*8+4) (n:=(i:Int).toNat*8+7) qS J (.tail _ (.tail _ (.head _))) q_e2 (D J) J)<|aP J<|cq h fun y q_y h=>?_
  refine jr 11 (ts:=[tV (gu l ((i:Int).toNat*8+7)),tV (gu l ((i:Int).toNat*8+7)),tV (gu l ((i:Int).toNat*8+7)),X rS e2.Value.S,tV (gu l ((i:Int).toNat*8+7)),tV (gu l ((i:Int).toNat*8+7)),X rS e2.Value.S,f6 e2.Value.S,bX (min (e2.Value.S.length:Int) (41:Int)),X rS y,tV (gu l ((i:Int).toNat*8+7))]) mixed J J J
   ⟨gK J J,
   ⟨gK J J,
   ⟨dg 23 1 J J (iU (.tail _ (.tail _ (.head _))) q_e2 (D J)),
   ⟨dg 24 2 J J (cD (r:=ai) (i:=(i:Int)) (foff:=7) DC J J (iv ft jm) J (.tail _ (.tail _ (.head _))) q_e2 (D J)),
   ⟨gK J J,
   ⟨dg 26 4 J J (iU (.tail _ (.tail _ (.head _))) q_e2 (D J)),
   ⟨dg 27 5 J J (cD (r:=ai) (i:=(i:Int)) (foff:=7) DC J J (iv ft jm) J (.tail _ (.tail _ (.head _))) q_e2 (D J)),
   ⟨dg 28 6 J J (wR AY (D J)),
   ⟨dg 29 7 J J (wQ (D J) hI),
   ⟨eI 25 3 30 8 J J J (Bq AY (D J) (D J) q_y),
   ⟨dg 22 0 J J (iU (.tail _ (.tail _ (.head _))) q_e2 (D J)),
   aX⟩⟩⟩⟩⟩⟩⟩⟩⟩⟩⟩ ?_
  refine cn<|cq h fun st q_st h=>jA DC J (sh ft uo ui) J q_e2 (so q_st) (D J) (D J)<|eS (dM (so q_st)) 17 J<|na (O' :=[dX ai 63 l c st,bx hf 27 b fQ,bx bW 27 b1 (cc out (aM l c st.length))]) (by first|(rw [dM (so q_st)];done)|(rw [dM (so q_st)];exact J)|exact J)<|bc<|cP I hN J<|aA<|aA ?_;exact aY (aN (ih (i+1) ({out with Nodes:=st}:af) ⟨cI I,h⟩) (bk J))

def Hh cond left outer{R}(h:fJ cond left outer=some R):cj bf 8 [X hf cond,bX left,ec outer] (tT [eE (hf) R.1,eE (hf) R.2.1,eE (hf) R.2.2.1,bX R.2.2.2]):=by
 refine de Tryz.func8 J<|T<|cA J<|gb (hf)<|gb (hf)<|gb (hf)<|cx<|bO<|ba<|bn aL J<|da h BG (sA _) (bQ J) fun r h=>aP J<|aW J<|gk J<|bc ?_;refine au<|jH h J (fun h=>?_) (fun h=>?_)
 ·exact aW J<|gb (hf)<|gb (hf)<|gb (hf)<|bt J<|ak<|so h▸xy J J J J J
 ·refine gg<|ba<|bg J<|K (eO (D J) hI)<|bg J<|aV J (cB J)<|aV J (fun Z=>mf (ca J Z) hI)<|fg J<|cw h J (fun h=>?_) (fun h=>?_)
  ·exact T<|gb (hf)<|gb (hf)<|gb (hf)<|dh<|ak<|so h▸xy J J J J J
  ·refine gg<|T<|bn aL J<|bg J<|bg J<|da h HB (CX _ _ _) (bQ J) fun r1 h=>av (r:=A7) (x:=(List.replicate 3 [])) wF (fun _=>rM (r:=rd) 3 (fun _=>⟨none,0,J,iZ _,ky _,.inl J⟩) _) J fun b=>aR wF aa J<|aB 11 J<|bO<|aF<|cq h fun e q_e h=>cq h fun e1 q_e1 h=>cq h fun e2 q_e2 h=>?_
   refine eC (ts:=[_,_,_,_,_,_,_,_,_,_]) mixed J J
    ⟨lV 11 J J (gD nj dC J (D J) hI q_e),
    ⟨ga 0 dC J J,
    ⟨lV 11 J J (gD nj dC J (D J) hI q_e1),
    ⟨ga 2 dC J J,
    ⟨lV 11 J J (gD nj dC J (D J) hI q_e2),
    ⟨ga 4 dC J J,
    ⟨dg 28 1 J J (re J),
    ⟨dg 30 3 J J (re J),
    ⟨dg 32 5 J J (re J),
    ⟨Cd J (If),
    aX⟩⟩⟩⟩⟩⟩⟩⟩⟩⟩ ?_
   exact au<|hJ<|so h▸xy J J J J J

def FZ tag{R}(h:pD tag=some R):cj bf 82 [bX tag] (bX R):=by
 refine de Tryz.func82 J<|T<|cx<|bO<|aF<|am<|aW J<|K (eO (D J) hI)<|bg J<|aV J (cB J)<|aV J (fun Z=>mf (ca J Z) hI)<|fg J<|aP J<|jH h J (fun h=>?_) (fun h=>?_)
 ·exact T<|dh<|cZ<|so h▸bl J J
 ·refine aW J<|K (iK (D J) hI)<|aP J<|jH h J (fun h=>?_) (fun h=>?_)
  ·exact T<|dh<|cZ<|so h▸bl J J
  ·refine aW J<|K (iK (D J) hI)<|aP J<|jH h J (fun h=>?_) (fun h=>?_)
   ·exact T<|dh<|cZ<|so h▸bl J J
   ·exact bH<|aO<|au<|T<|dh<|so h▸bl J J

def F8 tag{R}(h:nw tag=some R):cj bf 58 [bX tag] (bX R):=by
 refine de Tryz.func58 J<|T<|cx<|bO<|ba<|bg J<|cb J<|bg J<|aV J (cB J)<|aV J (fun Z=>dB (ca J Z) hI)<|aV J (rf J)<|hG J J J J (fun Z=>jJ J)<|hG J J J J (fun Z=>iK (ca J Z) hI)<|aV J (fun Z=>ll (ca J Z) (fun V=>(ca J (xo Z V))))<|fg J<|cw h J (fun h=>?_) (fun h=>?_)
 ·exact T<|dh<|ak<|so h▸bl J J
 ·exact gg<|aW J<|da h IT (FZ _) (bQ J) fun r h=>bt J<|so h▸bl J J

def EK v{R}(h:kp v=some R):cj bf 115 [X cH v] (ec R):=by
 refine de Tryz.func115 J<|T<|cA J<|cu<|bO<|ba<|bw oS kj bR J<|bO<|am<|T<|cb J<|aP J<|jH h J (fun h=>?_) (fun h=>?_)
 ·exact T<|bn jM J<|K (bz jM yD gQ J)<|K (p4 zT (D J) (D J))<|bt J<|cZ<|so h▸bl J J
 ·refine T<|cb J<|aP J<|jH h J (fun h=>?_) (fun h=>?_)
  ·refine T<|bw w7 oQ Ch J<|cb J<|bg J<|aI J (dv qS jm J J)<|aI J (du DC J J)<|aI J (fun Z=>wS (ca J Z) hS)<|dq J<|bg J<|aI J (dv pL lr J J)<|aI J (du DZ J J)<|aI J (i6 J)<|aI J (rf J)<|kV J J J J (fun Z=>jK pL lr J J)<|kV J J J J (fun Z=>d6 DZ J J (ca J Z))<|kV J J J J (fun Z=>fF (ca J Z) hI)<|aI J (fun Z=>oh (ca J Z) (fun V=>(ca J (xo Z (sw V)))))<|dq J<|bt J ?_;exact cZ<|so h▸bl J J
  ·refine T<|cb J<|aP J<|jH h J (fun h=>?_) (fun h=>?_)
   ·exact T<|bw w7 oQ Ch J<|cb J<|bg J<|aI J (dv qS jm J J)<|aI J (du DC J J)<|aI J (fun Z=>wS (ca J Z) hS)<|dq J<|bt J<|cZ<|so h▸bl J J
   ·refine T<|cb J<|aP J<|jH h J (fun h=>?_) (fun h=>?_)
    ·exact T<|bw pL lr DZ J<|cb J<|bg J<|aI J (dv w7 oQ J J)<|aI J (du Ch J J)<|aI J (i6 J)<|dq J<|bg J<|aI J (dv qS jm J J)<|aI J (du DC J J)<|aI J (fun Z=>wR AY (ca J Z))<|aI J (fun Z=>iK (ca J Z) hI)<|dq J<|bt J<|cZ<|so h▸bl J J
    ·exact bH<|aO<|au<|T<|bw oS kj bR J<|cb J<|bg J<|aI J (dv qS jm J J)<|aI J (du DC J J)<|aI J (fun Z=>wS (ca J Z) hS)<|dq J<|bt J<|so h▸bl J J

def FY v{R}(h:ny v=some R):cj bf 83 [X cH v] (ec R):=by
 exact de Tryz.func83 J<|T<|cA J<|cu<|bO<|T<|bn jM J<|da h H6 (EK _) (bQ J) fun r h=>bg J<|aI J (dv oS kj J J)<|aI J (du bR J J)<|aI J (pu J)<|dq J<|bt J<|so h▸bl J J

def F7 n{R}(h:hX n=some R):cj bf 59 [X ai n] (ec R):=by
 refine de Tryz.func59 J<|T<|cA J<|cu<|bO<|ba<|bw fW cJ bR J<|bO<|am<|T<|cb J<|aP J<|jH h J (fun h=>?_) (fun h=>?_)
 ·exact T<|bw oR ft jM J<|da h IS (FY _) (bQ J) fun r h=>bg J<|aI J (dv gZ dk J J)<|aI J (du bR J J)<|aI J (i6 J)<|dq J<|bt J<|cZ<|so h▸bl J J
 ·refine T<|cb J<|aP J<|jH h J (fun h=>?_) (fun h=>?_)
  ·exact T<|bw oR ft jM J<|K (bz jM yD gQ J)<|K (p4 zT (D J) (D J))<|bg J<|aI J (dv gZ dk J J)<|aI J (du bR J J)<|aI J (fun Z=>dB (ca J Z) hI)<|dq J<|bg J<|aI J (dv gZ dk J J)<|aI J (du bR J J)<|aI J (fun Z=>eO (ca J Z) hI)<|dq J<|bt J<|cZ<|so h▸bl J J
  ·exact bH<|aO<|au<|T<|bw oR ft jM J<|K (bz jM yD gQ J)<|K (p4 zT (D J) (D J))<|bg J<|aI J (dv gZ dk J J)<|aI J (du bR J J)<|aI J (i6 J)<|dq J<|bt J<|so h▸bl J J

def El: ∀(fu:Nat) (e:af) (place:Int) {R:Int} (h:eo fu e place=some R),cj bf 26 [X hf e,bX place] (bX R):=by
 intro fu
 induction fu with
 |zero=>intro e place R h;exact(nn h).elim
 |succ fu ihR=>
  intro e place R h
  refine de Tryz.func26 J<|T<|cA J<|cx<|bO<|ba<|bg J<|K (eO (D J) hI)<|bg J<|aV J (cB J)<|aV J (dv bZ bL J J)<|aV J (du ee J J)<|aV J (i5 hM J)<|aV J (fun Z=>dB (ca J Z) (ca J Z))<|fg J<|cw h J (fun h=>?_) (fun h=>?_)
  ·exact T<|dh<|ak<|so h▸bl J J
  ·refine gg<|T<|bw bZ bL ee J<|bg J<|cq h fun e1 q_e1 h=>ej hM cO J q_e1<|av cO dS J fun b=>aR cO aa J<|aB 5 J<|bO<|T<|bw fW cJ bR J<|da h I5 (F8 _) (bQ J) fun r h=>aP J ?_;refine ba<|bg J<|K (eO (D J) hI)<|bg J<|cq h fun t q_t h=>aV J (fun Z=>lc cO J J) ?_
   obtain⟨r1,h1t,h0t⟩:=og q_t
   have q_r1g:=fun V=>(h1t V).1
   refine aV J (fun Z=>cg I4 (F7 _ (q_r1g Z)) ⟨(ca J Z),aX⟩)<|aV J (pt J)<|K (jk (D J) (fun V=>(ca J (sw V))) (fun V=>(h1t V).2) h0t)<|cw h J (fun h=>?_) (fun h=>?_)
   ·exact T<|dh<|ak<|so h▸bl J J
   ·refine gg<|ba<|bg J<|cb J<|cw h J (fun h=>?_) (fun h=>?_)
    ·refine ba<|bw gH eb bR J<|gk J<|bg J<|aV J (dv gG ea J J)<|aV J (du bR J J)<|aV J (pu J)<|fg J<|cw h J (fun h=>?_) (fun h=>?_)
     ·exact T<|dh<|ak<|ak<|so h▸bl J J
     ·exact gg<|T<|dh<|ak<|so h▸bl J J
    ·refine gg<|T<|bn aL J<|bg J<|K (cY (D J) hI)<|da h EV (ihR _ _) (bQ J) fun r2 h=>aP J<|ba<|bg J<|cb J<|cw h J (fun h=>?_) (fun h=>?_)
     ·exact T<|dh<|ak<|so h▸bl J J
     ·refine gg<|ba<|bg J<|cb J<|cw h J (fun h=>?_) (fun h=>?_)
      ·refine ba<|bw gH eb bR J<|bg J<|K (cY (D J) hI)<|K (ia (D J) (D J))<|bg J<|aV J (dv gG ea J J)<|aV J (du bR J J)<|aV J (pu J)<|fg J<|cw h J (fun h=>?_) (fun h=>?_)
       ·exact T<|dh<|ak<|ak<|so h▸bl J J
       ·exact gg<|aW J<|K (eh (D J) hI)<|bt J<|ak<|so h▸bl J J
      ·refine gg<|T<|bn aL J<|bg J<|K (cY (D J) hI)<|bg J<|K (cY (D J) (D J))<|da h EV (ihR _ _) (bQ J) fun r3 h=>aP J<|ba<|bg J<|cb J<|bg J<|aV J (dv gG ea J J)<|aV J (du bR J J)<|aV J (cB J)<|aV J (fun Z=>cY (ca J Z) hI) ?_;refine aV J (fun Z=>ia (ca J Z) (ca J Z))<|fg J<|bg J<|aV J (dv gH eb J J)<|aV J (du bR J J)<|aV J (cB J)<|aV J (fun Z=>cY (ca J Z) hI)<|aV J (cB J)<|aV J (fun Z=>cY (ca J Z) (ca J Z))<|aV J (fun Z=>ia (ca J Z) (ca J Z))<|fg J<|cw h J (fun h=>?_) (fun h=>?_)
       ·exact T<|dh<|ak<|so h▸bl J J
       ·exact gg<|aW J<|bg J<|K (eh (D J) (D J))<|K (eh (D J) hI)<|bt J<|so h▸bl J J
def CW e place{R}(h:mR e place=some R):cj bf 26 [X hf e,bX place] (bX R):=El mG e place h

end Go.Proofs.YtbmmihfagmchaaaGreat

