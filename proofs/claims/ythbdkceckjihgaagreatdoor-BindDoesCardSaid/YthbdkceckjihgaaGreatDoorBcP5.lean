/- dm of this claim: P5. -/
import Derived.Test.YthbdkceckjihgaaGreatDoorBcT
import Derived.Test.YthbdkceckjihgaaGreatDoorBcP4
set_option linter.all false
namespace Go.Proofs.YthbdkceckjihgaaGreatDoor
open Go
set_option maxRecDepth 100000

def VX s v{R}(h:mz s v=some R):cN bd 179 [qn s,bf v] (bf R):=by
 refine dp Tryz.func179 I<|aV<|bF<|bP<|aR<|aY I<|bY fH I<|d (bB hI)<|bP<|ai<|aN (k:=6) I fun hN=>bp ?_;refine ay (dx (tD:=fun ls i=>(s.drop i=ls)/\iO v ls i=some R) (Of:=fun _ i=>[]) (Gf:=fun _ i=>[(0,qn s),(1,bf v),(7,iG s),(8,bf (i:Int))]) (fun i h=>?_) (fun e tl ih i h=>?_) s 0 ⟨I,h⟩) (a8 I)
 ·obtain⟨D,h⟩:=h
  exact dh D I<|aq<|aV<|dG<|so h▸au I I
 ·obtain⟨D,h⟩:=h
  refine dg D I<|aA<|ai<|aI I<|bh I<|aI I<|aY I<|aY I<|uH fH cF I (cW D) ?_;refine cM cF I<|d (m6 (M I) (M I))<|bX h I (fun h=>?_) (fun h=>?_)
  ·exact aI I<|bj I<|bT<|af<|bT<|so h▸au I I
  ·refine bl<|cS D hN I ?_;exact aO (ay (ih (i+1) ⟨cO D,h⟩) (a8 I))

def VK s f{R}(h:jk s f=some R):cN bd 215 [gb (aT) s,(jT bd UI E0 (fun(x:lb)=>f x))] (bf R):=by
 refine dp Tryz.func215 I<|aV<|bF<|bP<|aR<|aY I<|bY wi I<|d (bB hI)<|bP<|ai<|aN (k:=6) I fun hN=>bp ?_;refine ay (dx (tD:=fun ls i=>(s.drop i=ls)/\ez f ls i=some R) (Of:=fun _ i=>[]) (Gf:=fun _ i=>[(0,gb (aT) s),(1,(jT bd UI E0 (fun(x:lb)=>f x))),(7,iG s),(8,bf (i:Int))]) (fun i h=>?_) (fun e tl ih i h=>?_) s 0 ⟨I,h⟩) (a8 I)
 ·obtain⟨D,h⟩:=h
  exact dh D I<|aq<|aV<|dG<|so h▸au I I
 ·obtain⟨D,h⟩:=h
  refine dg D I<|aA<|ai<|aI I<|bh I<|aI I<|aY I<|aY I<|uH wi ut I (cW D) ?_;refine cM ut I<|cu h fun r q_r h=>d (ku (args:=UI) (res:=MW) (f:=(fun(x:lb)=>f x)) (x:=((e):lb)) (M I) q_r ⟨(M I),Q⟩)<|bX h I (fun h=>?_) (fun h=>?_)
  ·exact aI I<|bj I<|bT<|af<|bT<|so h▸au I I
  ·refine bl<|cS D hN I ?_;exact aO (ay (ih (i+1) ⟨cO D,h⟩) (a8 I))

def Wo s1 s2{R}(h:jl s1 s2=some R):cN bd 120 [gb (bt) s1,gb (bt) s2] (iD R):=by
 refine dp Tryz.func120 I<|aV<|bC<|bP<|aR<|aY I<|bY mv I<|aY I<|bY mv I<|d (du (M I) (M I))<|bX h I (fun h=>?_) (fun h=>?_)
 ·exact aV<|bC<|cA<|af<|so h▸au I I
 ·refine gp<|aR<|aY I<|bY mv I<|d (bB hI)<|bP<|ai<|aN (k:=11) I fun hN=>bp ?_;refine ay (dx (tD:=fun ls i=>(s1.drop i=ls)/\eA s2 ls i=some R) (Of:=fun _ i=>[]) (Gf:=fun _ i=>[(0,gb (bt) s1),(1,gb (bt) s2),(12,iG s1),(13,bf (i:Int))]) (fun i h=>?_) (fun e tl ih i h=>?_) s1 0 ⟨I,h⟩) (a8 I)
  ·obtain⟨D,h⟩:=h
   exact dh D I<|aq<|aV<|bC<|cA<|so h▸au I I
  ·obtain⟨D,h⟩:=h
   refine dg D I<|aA<|ai<|aI I<|bh I<|aA<|cu h fun e1 q_e1 h=>?_
   refine d8 (ts:=[_,_,_,_,_,_,_,_,_]) mixed I I
    ⟨fv I I,
    ⟨fv I I,
    ⟨eh 16 0 17 1 I I I (uR mv eH I I I (cW D)),
    ⟨fA 2 eH I I,
    ⟨fv I I,
    ⟨fv I I,
    ⟨eh 20 4 21 5 I I I (uR mv eH I I I q_e1),
    ⟨fA 6 eH I I,
    ⟨eh 19 3 23 7 I I I (qS Xk (M I) (M I)),
    Q⟩⟩⟩⟩⟩⟩⟩⟩⟩ ?_
   refine aq<|lO h I (fun h=>?_) (fun h=>?_)
   ·exact aV<|bC<|cA<|bT<|af<|bT<|so h▸au I I
   ·refine bl<|cS D hN I ?_;exact aO (ay (ih (i+1) ⟨cO D,h⟩) (a8 I))

def YI a1 b{R}(h:AF a1 b=some R):cN bd 65 [Z ac a1,Z ac b] (iD R):=by
 exact dp Tryz.func65 I<|aV<|cL I<|cL I<|bC<|bP<|aV<|aU jV ge sB I<|aU jV ge sB I<|eg h abM (Wo _ _) (da I) fun r h=>bj I<|so h▸au I I

def VJ c p{R}(h:lN c p=some R):cN bd 216 [Z aT p,bo aT c] (iD R):=by
 refine dp Tryz.func216 I<|aV<|cL I<|bC<|bP<|aV<|aU sf mJ cF I<|aU sf mJ cF I<|d (m6 (M I) (M I))<|aY I<|cu h fun t q_t h=>ax I (bQ yn ue I I)<|ax I (bN bJ I I)<|ax I (bQ yn ue I I)<|ax I (bN bJ I I) ?_
 obtain⟨r,h1t,h0t⟩:=og q_t
 have q_rg:=fun A=>(h1t A).1
 exact ax I (fun V=>bq acG (YI _ _ (q_rg V)) ⟨(bE I V),(bE I V),Q⟩)<|d (co (M I) (fun A=>(bE I A)) (fun A=>(h1t A).2) h0t)<|bj I<|so h▸au I I

set_option maxHeartbeats 4000000 in
def Y7(b:Nat)(ix:OI) s a1{R}(h:nz s a1=some R):ea bd 180 [tV (an b 0),Z aT a1] (dq b s ix) (fun _:OI=>tT [bf R.1,bf R.2.1]) (fun j=>dq b R.2.2 j):=by
 refine ea.of Tryz.func180 I I I fun w0 S0=>?_;refine(show CG _ _ _ [bx (rH aS (z10 ix s)) 127 b s,K aP 3 (ix.h 0).1 (ix.h 0).2 s.out.Tables,K av 71 (ix.h 1).1 (ix.h 1).2 s.out.Joins,K aP 3 (ix.h 2).1 (ix.h 2).2 s.out.Keys,K aT 73 (ix.h 3).1 (ix.h 3).2 s.out.Aggs,K ac 62 (ix.h 4).1 (ix.h 4).2 s.out.Items,K aP 3 (ix.h 5).1 (ix.h 5).2 s.kinds,K aP 3 (ix.h 6).1 (ix.h 6).2 s.groups,ci mW ew (ix.h 7).2 none (ix.oss 0) s.called,ci fe ew (ix.h 8).2 none (ix.oss 1) s.alone,eO (fun y:Int=>bf y) lc (ix.h 9).2 s.behind] _ from ?_);refine aV<|cL I<|bF<|bF<|bP<|aV<|bF<|bP ?_;refine ia (tD:=fun kind=>kK s a1 kind=some R) (Of:=fun kind=>[bx (rH aS (z10 ix s)) 127 b s,K aP 3 (ix.h 0).1 (ix.h 0).2 s.out.Tables,K av 71 (ix.h 1).1 (ix.h 1).2 s.out.Joins,K aP 3 (ix.h 2).1 (ix.h 2).2 s.out.Keys,K aT 73 (ix.h 3).1 (ix.h 3).2 s.out.Aggs,K ac 62 (ix.h 4).1 (ix.h 4).2 s.out.Items,K aP 3 (ix.h 5).1 (ix.h 5).2 s.kinds,K aP 3 (ix.h 6).1 (ix.h 6).2 s.groups,ci mW ew (ix.h 7).2 none (ix.oss 0) s.called,ci fe ew (ix.h 8).2 none (ix.oss 1) s.alone,eO (fun y:Int=>bf y) lc (ix.h 9).2 s.behind]) (Gf:=fun kind=>[(0,tV (an b 0)),(3,bo aT a1),(6,bf kind)]) (fun kind h=>?_) (fun aw=>?_)
 ·skip
  refine aI I<|d (bm (M I))<|bu 10 gE I<|bu 17 nZ I<|d (cR xU I (.head _) (.tail _ (.tail _ (.tail _ (.tail _ (.head _))))) (M I))<|d ((show cH _ _ _ _ ((jT bd UI E0 (fun(x:lb)=>(lN a1) x)))from rs (cts:=[bo aT a1]) (caps:=[.tmp 3]) aa5 ⟨(M I),Q⟩ (fun x y h=>VJ _ _ h)))<|eg h aa6 (VK _ _) ⟨(kp (M I)),(M I),Q⟩ fun r h=>bh I ?_;refine vw (tD:=fun i ob ix1=>mL i ob=some R) (Of:=fun i ob (ix1:OI)=>[bx (rH aS (z10 ix1 ob)) 127 b ob,K aP 3 (ix1.h 0).1 (ix1.h 0).2 ob.out.Tables,K av 71 (ix1.h 1).1 (ix1.h 1).2 ob.out.Joins,K aP 3 (ix1.h 2).1 (ix1.h 2).2 ob.out.Keys,K aT 73 (ix1.h 3).1 (ix1.h 3).2 ob.out.Aggs,K ac 62 (ix1.h 4).1 (ix1.h 4).2 ob.out.Items,K aP 3 (ix1.h 5).1 (ix1.h 5).2 ob.kinds,K aP 3 (ix1.h 6).1 (ix1.h 6).2 ob.groups,ci mW ew (ix1.h 7).2 none (ix1.oss 0) ob.called,ci fe ew (ix1.h 8).2 none (ix1.oss 1) ob.alone,eO (fun y:Int=>bf y) lc (ix1.h 9).2 ob.behind]) (Gf:=fun i ob ix1=>[(0,tV (an b 0)),(9,bf i)]) (fun i ob ix1 h=>?_) (fun K1=>?_)
  ·skip
   refine aR<|aY I<|d (bm (M I))<|bu 10 gE I<|bu 17 nZ I<|d (cR xU I (.head _) (.tail _ (.tail _ (.tail _ (.tail _ (.head _))))) (M I))<|d (fO wi (kp (M I)))<|d (eX (M I) hI)<|bX h I (fun h=>?_) (fun h=>?_)
   ·exact aV<|bF<|dG<|af<|so h▸dc (ts:=[bf 0,bf 228]) (rvs:=[.tmp 4,.tmp 5]) I I ⟨bH I,bH I,Q⟩ ix1 I I
   ·exact gp<|aI I<|d (bm (M I))<|bu 10 gE I<|bu 16 uD I<|d (cR fV I (.head _) (.tail _ (.tail _ (.tail _ (.head _)))) (M I))<|d (fO fH (kp (M I)))<|aY I<|d (fq (M I) (M I))<|gx I<|dG<|so h▸dc (ts:=[bf (IntKind.i64.wrap ((ob.out.Keys.length:Int)+i)),bf 0]) (rvs:=[.tmp 4,.tmp 5]) I I ⟨bH I,bH I,Q⟩ ix1 I I
  ·skip
   refine aI I<|d (eN (M I) hI)<|bX h I (fun h=>?_) (fun h=>?_)
   ·refine aI I<|d (bm (M I))<|bu 10 gE I<|bu 17 nZ I<|d (cR xU I (.head _) (.tail _ (.tail _ (.tail _ (.tail _ (.head _))))) (M I))<|d (fO wi (kp (M I)))<|bh I<|cu h fun l7 q_l7 h=>cu h fun l8 q_l8 h=>?_
    refine er 21 [tc (tV (an b 0)),tc (tV (an b 0)),tc (tV (an b 0)),tc (tV (an b 0)),tc (tV (an b 10)),tc (tV (an b 17)),tc (tO aT (ix.h 3).1 (ix.h 3).2 s.out.Aggs),tc (Z aT a1),tc (gb (aT) ([a1])),([9],fun s=>tO aT ((s.getD 0 oD).h 0).1 ((s.getD 0 oD).h 0).2 l7),tc (tV (an b 0)),tc (tV (an b 0)),tc (tV (an b 23)),tc (tO aP (ix.h 6).1 (ix.h 6).2 s.groups),tc (bf kind),tc (qn ([kind])),([16],fun s=>tO aP ((s.getD 0 oD).h 0).1 ((s.getD 0 oD).h 0).2 l8),tc (tV (an b 0)),tc (tV (an b 10)),tc (tV (an b 17)),tc (tS)] [false,false,false,false,false,false,false,false,false,true,false,false,false,false,false,false,true,false,false,false,true] [fun _=>[bx (rH aS (z10 ix s)) 127 b s,K aP 3 (ix.h 0).1 (ix.h 0).2 s.out.Tables,K av 71 (ix.h 1).1 (ix.h 1).2 s.out.Joins,K aP 3 (ix.h 2).1 (ix.h 2).2 s.out.Keys,K aT 73 (ix.h 3).1 (ix.h 3).2 s.out.Aggs,K ac 62 (ix.h 4).1 (ix.h 4).2 s.out.Items,K aP 3 (ix.h 5).1 (ix.h 5).2 s.kinds,K aP 3 (ix.h 6).1 (ix.h 6).2 s.groups,ci mW ew (ix.h 7).2 none (ix.oss 0) s.called,ci fe ew (ix.h 8).2 none (ix.oss 1) s.alone,eO (fun y:Int=>bf y) lc (ix.h 9).2 s.behind],fun sg=>[K aT 73 ((sg 9).h 0).1 ((sg 9).h 0).2 l7,bx (rH aS (z10 ix s)) 127 b s,K aP 3 (ix.h 0).1 (ix.h 0).2 s.out.Tables,K av 71 (ix.h 1).1 (ix.h 1).2 s.out.Joins,K aP 3 (ix.h 2).1 (ix.h 2).2 s.out.Keys,K ac 62 (ix.h 4).1 (ix.h 4).2 s.out.Items,K aP 3 (ix.h 5).1 (ix.h 5).2 s.kinds,K aP 3 (ix.h 6).1 (ix.h 6).2 s.groups,ci mW ew (ix.h 7).2 none (ix.oss 0) s.called,ci fe ew (ix.h 8).2 none (ix.oss 1) s.alone,eO (fun y:Int=>bf y) lc (ix.h 9).2 s.behind],fun sg=>[K aP 3 ((sg 16).h 0).1 ((sg 16).h 0).2 l8,K aT 73 ((sg 9).h 0).1 ((sg 9).h 0).2 l7,bx (rH aS (z10 ix s)) 127 b s,K aP 3 (ix.h 0).1 (ix.h 0).2 s.out.Tables,K av 71 (ix.h 1).1 (ix.h 1).2 s.out.Joins,K aP 3 (ix.h 2).1 (ix.h 2).2 s.out.Keys,K ac 62 (ix.h 4).1 (ix.h 4).2 s.out.Items,K aP 3 (ix.h 5).1 (ix.h 5).2 s.kinds,ci mW ew (ix.h 7).2 none (ix.oss 0) s.called,ci fe ew (ix.h 8).2 none (ix.oss 1) s.alone,eO (fun y:Int=>bf y) lc (ix.h 9).2 s.behind],fun sg=>[bx (rH aS [(10,Y (ix.h 0).1 (ix.h 0).2 s.out.Tables.length),(11,Y (ix.h 1).1 (ix.h 1).2 s.out.Joins.length),(16,Y (ix.h 2).1 (ix.h 2).2 s.out.Keys.length),(17,Y ((sg 9).h 0).1 ((sg 9).h 0).2 l7.length),(18,Y (ix.h 4).1 (ix.h 4).2 s.out.Items.length),(22,Y (ix.h 5).1 (ix.h 5).2 s.kinds.length),(23,Y (ix.h 6).1 (ix.h 6).2 s.groups.length),(19,aH (ix.h 7).2),(20,aH (ix.h 8).2),(21,aH (ix.h 9).2)]) 127 b ({s with out:=({s.out with Aggs:=l7}:bb)}:am),K aP 3 ((sg 16).h 0).1 ((sg 16).h 0).2 l8,K aT 73 ((sg 9).h 0).1 ((sg 9).h 0).2 l7,K aP 3 (ix.h 0).1 (ix.h 0).2 s.out.Tables,K av 71 (ix.h 1).1 (ix.h 1).2 s.out.Joins,K aP 3 (ix.h 2).1 (ix.h 2).2 s.out.Keys,K ac 62 (ix.h 4).1 (ix.h 4).2 s.out.Items,K aP 3 (ix.h 5).1 (ix.h 5).2 s.kinds,ci mW ew (ix.h 7).2 none (ix.oss 0) s.called,ci fe ew (ix.h 8).2 none (ix.oss 1) s.alone,eO (fun y:Int=>bf y) lc (ix.h 9).2 s.behind]] I mixed I I I I I
     ⟨⟨[⟨0,fun _=>tV (an b 0),none⟩],_,0,2,I,⟨(fun _=>I),Q⟩,I,I,I,I,I,fun _ sg _ _=>h2 I (fR I)⟩,
     ⟨⟨[⟨0,fun _=>tV (an b 0),none⟩],_,0,3,I,⟨(fun _=>I),Q⟩,I,I,I,I,I,fun _ sg _ _=>h2 I (fR I)⟩,
     ⟨⟨[⟨0,fun _=>tV (an b 0),none⟩],_,0,0,I,⟨(fun _=>I),Q⟩,I,I,I,I,I,fun _ sg _ _=>h2 I (fR I)⟩,
     ⟨⟨[⟨64,fun _=>tV (an b 0),some 2⟩],_,0,0,I,⟨(fun _=>I),Q⟩,I,I,I,I,I,fun _ sg _ _=>h2 I (bm (M I))⟩,
     ⟨⟨[⟨65,fun _=>tV (an b 0),some 3⟩],_,0,0,I,⟨(fun _=>I),Q⟩,I,I,I,I,I,fun _ sg _ _=>h2 I (lu 10 gE I I I)⟩,
     ⟨⟨[⟨66,fun _=>tV (an b 10),some 4⟩],_,0,0,I,⟨(fun _=>I),Q⟩,I,I,I,I,I,fun _ sg _ _=>h2 I (lu 17 nZ I I I)⟩,
     ⟨⟨[⟨67,fun _=>tV (an b 17),some 5⟩],_,0,0,I,⟨(fun _=>I),Q⟩,I,I,I,I,I,fM (fun sg=>h2 I (cR xU I (.head _) (.tail _ (.tail _ (.tail _ (.tail _ (.head _))))) (M I)))⟩,
     ⟨⟨[⟨3,fun _=>bo aT a1,none⟩],_,0,0,I,⟨(fun _=>I),Q⟩,I,I,I,I,I,fun _ sg _ _=>h2 I (nM ut I I)⟩,
     ⟨⟨[⟨69,fun _=>Z aT a1,some 7⟩],_,0,0,I,⟨(fun _=>I),Q⟩,I,I,I,I,I,fun _ sg _ _=>h2 I (ba (r:=aT) (ys:=[a1]) (xs:=[.tmp 69]) wi ut I I I I I ⟨(M I),Q⟩)⟩,
     ⟨⟨[⟨68,fun _=>tO aT (ix.h 3).1 (ix.h 3).2 s.out.Aggs,some 6⟩,⟨70,fun _=>Z (eM aT) ([a1]),some 8⟩],_,I,⟨(fun _=>I),(fun _=>I),Q⟩,I,I,I,fun sg=>bL I (EffOK.fr4 (iq ut I I I I wi I (M I) (M I) q_l7))⟩,
     ⟨⟨[⟨0,fun _=>tV (an b 0),none⟩],_,0,1,I,⟨(fun _=>I),Q⟩,I,I,I,I,I,fun _ sg _ _=>h2 I (fR I)⟩,
     ⟨⟨[⟨72,fun _=>tV (an b 0),some 10⟩],_,0,1,I,⟨(fun _=>I),Q⟩,I,I,I,I,I,fun _ sg _ _=>h2 I (bm (M I))⟩,
     ⟨⟨[⟨73,fun _=>tV (an b 0),some 11⟩],_,0,1,I,⟨(fun _=>I),Q⟩,I,I,I,I,I,fun _ sg _ _=>h2 I (lu 23 AB I I I)⟩,
     ⟨⟨[⟨74,fun _=>tV (an b 23),some 12⟩],_,0,1,I,⟨(fun _=>I),Q⟩,I,I,I,I,I,ur (fun sg=>h2 I (cR fV I (.head _) (.tail _ (.tail _ (.tail _ (.tail _ (.tail _ (.tail _ (.tail _ (.head _)))))))) (M I))) (fM (fun sg=>h2 I (cR fV I (.tail _ (.head _)) (.tail _ (.tail _ (.tail _ (.tail _ (.tail _ (.tail _ (.tail _ (.head _)))))))) (M I))))⟩,
     ⟨⟨[⟨6,fun _=>Z aP kind,none⟩],_,0,1,I,⟨(fun _=>I),Q⟩,I,I,I,I,I,fun _ sg _ _=>h2 I (fR I)⟩,
     ⟨⟨[⟨76,fun _=>Z aP kind,some 14⟩],_,0,1,I,⟨(fun _=>I),Q⟩,I,I,I,I,I,fun _ sg _ _=>h2 I (ba (r:=aP) (ys:=[kind]) (xs:=[.tmp 76]) fH cF I I I I I ⟨(M I),Q⟩)⟩,
     ⟨⟨[⟨75,fun _=>tO aP (ix.h 6).1 (ix.h 6).2 s.groups,some 13⟩,⟨77,fun _=>Z DD ([kind]),some 15⟩],_,I,⟨(fun _=>I),(fun _=>I),Q⟩,I,I,I,fun sg=>bL I (EffOK.fr7 (iq cF I I I I fH I (M I) (M I) q_l8))⟩,
     ⟨⟨[⟨62,fun _=>tV (an b 0),some 0⟩],_,2,2,I,⟨(fun _=>I),Q⟩,I,I,I,I,I,fun _ sg _ _=>h2 I (bm (M I))⟩,
     ⟨⟨[⟨79,fun _=>tV (an b 0),some 17⟩],_,2,2,I,⟨(fun _=>I),Q⟩,I,I,I,I,I,fun _ sg _ _=>h2 I (lu 10 gE I I I)⟩,
     ⟨⟨[⟨80,fun _=>tV (an b 10),some 18⟩],_,2,2,I,⟨(fun _=>I),Q⟩,I,I,I,I,I,fun _ sg _ _=>h2 I (lu 17 nZ I I I)⟩,
     ⟨⟨[⟨81,fun _=>tV (an b 17),some 19⟩,⟨71,fun sg=>tO aT ((sg 9).h 0).1 ((sg 9).h 0).2 l7,some 9⟩],_,I,⟨(fun _=>I),(fun _=>I),Q⟩,I,I,I,fun sg=>bL I (EffOK.fr2 (il (hs' :=[(10,Y (ix.h 0).1 (ix.h 0).2 s.out.Tables.length),(11,Y (ix.h 1).1 (ix.h 1).2 s.out.Joins.length),(16,Y (ix.h 2).1 (ix.h 2).2 s.out.Keys.length),(17,Y ((sg 9).h 0).1 ((sg 9).h 0).2 l7.length),(18,Y (ix.h 4).1 (ix.h 4).2 s.out.Items.length),(22,Y (ix.h 5).1 (ix.h 5).2 s.kinds.length),(23,Y (ix.h 6).1 (ix.h 6).2 s.groups.length),(19,aH (ix.h 7).2),(20,aH (ix.h 8).2),(21,aH (ix.h 9).2)]) (u:=Y ((sg 9).h 0).1 ((sg 9).h 0).2 l7.length) xU I I (gc iL mO CD) I ⟨.inr ⟨I,I⟩,.inr ⟨I,I⟩,.inr ⟨I,I⟩,.inl ⟨I,I,I⟩,.inr ⟨I,I⟩,.inr ⟨I,I⟩,.inr ⟨I,I⟩,.inr ⟨I,I⟩,.inr ⟨I,I⟩,.inr ⟨I,I⟩,Q⟩ (M I) (kp (M I)) (tR (M I))))⟩,
     Q⟩⟩⟩⟩⟩⟩⟩⟩⟩⟩⟩⟩⟩⟩⟩⟩⟩⟩⟩⟩⟩ (fun sg=>?_)
    refine(show RG _ _ _ _ [_,_,_,_,_,_,_,_,_,_,_] _ from ?_);refine d (bm (M I))<|bu 23 AB I<|fZ (il (hs' :=[(10,Y (ix.h 0).1 (ix.h 0).2 s.out.Tables.length),(11,Y (ix.h 1).1 (ix.h 1).2 s.out.Joins.length),(16,Y (ix.h 2).1 (ix.h 2).2 s.out.Keys.length),(17,Y ((sg 9).h 0).1 ((sg 9).h 0).2 l7.length),(18,Y (ix.h 4).1 (ix.h 4).2 s.out.Items.length),(22,Y (ix.h 5).1 (ix.h 5).2 s.kinds.length),(23,Y ((sg 16).h 0).1 ((sg 16).h 0).2 l8.length),(19,aH (ix.h 7).2),(20,aH (ix.h 8).2),(21,aH (ix.h 9).2)]) (u:=Y ((sg 16).h 0).1 ((sg 16).h 0).2 l8.length) fV I I Gk I ⟨.inr ⟨I,I⟩,.inr ⟨I,I⟩,.inr ⟨I,I⟩,.inr ⟨I,I⟩,.inr ⟨I,I⟩,.inr ⟨I,I⟩,.inl ⟨I,I,I⟩,.inr ⟨I,I⟩,.inr ⟨I,I⟩,.inr ⟨I,I⟩,Q⟩ (M I) (kp (M I)) (tR (M I))) fun i1=>?_;refine(show RG _ _ _ _ [_,_,_,_,_,_,_,_,_,_,_] _ from ?_);refine br<|al<|al<|al<|eb<|al<|al<|dl<|al<|al<|al<|al ?_;exact cj (K1 (s.out.Aggs.length:Int) ({({s with out:=({s.out with Aggs:=l7}:bb)}:am)with groups:=l8}:am) (Va [((ix.h 0).1,(ix.h 0).2),((ix.h 1).1,(ix.h 1).2),((ix.h 2).1,(ix.h 2).2),(((sg 9).h 0).1,((sg 9).h 0).2),((ix.h 4).1,(ix.h 4).2),((ix.h 5).1,(ix.h 5).2),(((sg 16).h 0).1,((sg 16).h 0).2),(none,(ix.h 7).2),(none,(ix.h 8).2),(none,(ix.h 9).2)] [(ix.oss 0),(ix.oss 1),[]]) h) (a8 I)
   ·refine bl ?_;exact cj (K1 r s ix h) (a8 I)
 ·skip
  refine aV<|aU sf mJ cF I<|ib I<|bX h I (fun h=>?_) (fun h=>?_)
  ·refine aA<|cu h fun r1 q_r1 h=>?_
   refine d8 (ts:=[_,_,_,_,_,_,_,_,_,_,_,_]) mixed I I
    ⟨qN 3 I I (kO yn ue I I),
    ⟨fA 0 bJ I I,
    ⟨fv I I,
    ⟨fL 16 2 I I (bm (M I)),
    ⟨fL 17 3 I I (lu 22 wN I I I),
    ⟨fL 18 4 I I (cR fV I (.head _) (.tail _ (.tail _ (.tail _ (.tail _ (.tail _ (.tail _ (.head _))))))) (M I)),
    ⟨eh 15 1 19 5 I I I (bq WC (Kp _ _ q_r1) ⟨(M I),(kp (M I)),Q⟩),
    ⟨fL 20 6 I I (fR I),
    ⟨fL 13 7 I I (w9 I I),
    ⟨fL 13 7 I I (w9 I I),
    ⟨fL 21 8 I I (Cm I),
    ⟨fL 22 9 I I (Cm I),
    Q⟩⟩⟩⟩⟩⟩⟩⟩⟩⟩⟩⟩ ?_
   refine aq<|aR<|aY I<|ib I<|aY I<|ap I (bQ sf mJ I I)<|ap I (bN cF I I)<|ap I (mX I)<|ap I (rn I)<|em I I I I (fun V=>fR I)<|em I I I I (fun V=>du (bE I V) hI)<|ap I (fun V=>jr (bE I V) (fun A=>(bE I (sr V A))))<|ap I (rn I)<|em I I I I (fun V=>fR I)<|em I I I I (fun V=>du (bE I V) hI)<|ap I (fun V=>jr (bE I V) (fun A=>(bE I (sr V A))))<|dU I<|bX h I (fun h=>?_) (fun h=>?_)
   ·exact aV<|bF<|dG<|af<|af<|so h▸dc (ts:=[bf 0,bf 201]) (rvs:=[.tmp 4,.tmp 5]) I I ⟨bH I,bH I,Q⟩ ix I I
   ·refine gp<|aV<|aU sf mJ cF I<|dn I<|aY I<|ap I (bQ sf mJ I I)<|ap I (bN cF I I)<|ap I (mX I)<|dU I<|bX h I (fun h=>?_) (fun h=>?_)
    ·refine aL<|aY I<|gx I<|br ?_;exact cj (aw r1.1 h) (a8 I)
    ·refine bl ?_;exact cj (aw (2:Int) h) (a8 I)
  ·refine bl ?_;exact cj (aw (2:Int) h) (a8 I)

def VW tag l{R}(h:zT tag l=some R):cN bd 181 [bf tag,Z ac l] (tT [Z ac R.1,bf R.2]):=by
 exact dp Tryz.func181 I<|aV<|cL I<|aX bJ cZ I fun b=>bF<|bP<|aI I<|d (bS (y:=(⟨tag,(0:Int),(0:Int),(0:Int),HV⟩:aD)) eH yQ iN (⟨_,_,_,_,_,I,kR,I,(M I),I⟩))<|cM bJ I<|d (ba (r:=ac) (ys:=[l]) (xs:=[.tmp 8]) oQ bJ I I I I I ⟨(M I),Q⟩)<|eg h T6 (Kq _ _) (da I) fun r h=>cU I I<|cU I I<|bM bJ aj I<|aQ 4 I<|bj I<|so h▸ly I I ⟨di bJ I I I,bH I,Q⟩

def VV tag l r{R}(h:Df tag l r=some R):cN bd 182 [bf tag,Z ac l,Z ac r] (tT [Z ac R.1,bf R.2]):=by
 refine dp Tryz.func182 I<|aV<|cL I<|cL I<|aX bJ cZ I fun b=>bF<|bP<|aI I<|d (bS (y:=(⟨tag,(0:Int),(0:Int),(0:Int),HV⟩:aD)) eH yQ iN (⟨_,_,_,_,_,I,kR,I,(M I),I⟩))<|cM bJ I<|cM bJ I<|d (ba (r:=ac) (ys:=[l,r]) (xs:=[.tmp 10,.tmp 11]) oQ bJ I I I I I ⟨(M I),(M I),Q⟩)<|eg h T6 (Kq _ _) (da I) fun r1 h=>cU I I<|cU I I<|bM bJ aj I<|aQ 6 I<|gx I<|br ?_;exact aq<|yJ<|so h▸ly I I ⟨di bJ I I I,bH I,Q⟩

set_option maxHeartbeats 4000000 in
def TG: ∀(fu:Nat) (b:Nat) (ix:OI) (bslf:Nat) (s:am) (t:db) (leaf:(aD->Option (aZ×Int))) (tags:(List (Int×Int))) (over:am->Bool->Option ((List Int)×am)) (i:Int) (group:Bool) {R:aZ×Int×am} (h:cy fu s t leaf tags over i group=some R),ea bd 178 [bf i,iD group,bo bD t,bo (rT ((jT bd DE H1 (fun(x:aD)=>leaf x)))) (),bo (rT (tV (an b 0))) (),bo (rT (DH (fun y:Int=>bf y) uQ tags)) (),UU 178 [bo bD t,bo (rT ((jT bd DE H1 (fun(x:aD)=>leaf x)))) (),bo (rT (tV (an b 0))) (),bo (rT (DH (fun y:Int=>bf y) uQ tags)) ()] [bo (rT (Gd (mY bd xS (dq b) JC over))) ()] bslf,bo (rT (Gd (mY bd xS (dq b) JC over))) ()] (dq b s ix) (fun _:OI=>tT [Z ac R.1,bf R.2.1]) (fun j=>dq b R.2.2 j):=by
 intro fu
 induction fu with
 |zero=>intro b ix bslf s t leaf tags over i group R h;exact(nn h).elim
 |succ fu ihR=>
  intro b ix bslf s t leaf tags over i group R h
  refine ea.of Tryz.func178 I I I fun w0 S0=>?_;refine(show CG _ _ _ [bx (rH aS (z10 ix s)) 127 b s,K aP 3 (ix.h 0).1 (ix.h 0).2 s.out.Tables,K av 71 (ix.h 1).1 (ix.h 1).2 s.out.Joins,K aP 3 (ix.h 2).1 (ix.h 2).2 s.out.Keys,K aT 73 (ix.h 3).1 (ix.h 3).2 s.out.Aggs,K ac 62 (ix.h 4).1 (ix.h 4).2 s.out.Items,K aP 3 (ix.h 5).1 (ix.h 5).2 s.kinds,K aP 3 (ix.h 6).1 (ix.h 6).2 s.groups,ci mW ew (ix.h 7).2 none (ix.oss 0) s.called,ci fe ew (ix.h 8).2 none (ix.oss 1) s.alone,eO (fun y:Int=>bf y) lc (ix.h 9).2 s.behind] _ from ?_);refine aV<|aX bJ cZ I fun b1=>bF<|bP<|aV<|aU ik dX qi I<|aY I<|cu h fun e q_e h=>d9 nb ko I q_e<|aX ko wl I fun b2=>bM ko aj I<|aQ 12 I<|bP<|aR<|aU mf gY cF I ?_;refine dn I<|bX h I (fun h=>?_) (fun h=>?_)
  ·exact aV<|d (ua K8 (M I))<|aU qU lL lg I<|d (bS (y:=(⟨(1:Int),(0:Int),(0:Int),(0:Int),e.Value⟩:aD)) eH yQ iN (⟨_,_,_,_,_,I,kR,I,hI,⟨_,_,_,_,_,I,Gr,I,(M I),I⟩⟩))<|cu h fun r q_r h=>d (ku (args:=DE) (res:=XT) (f:=(fun(x:aD)=>leaf x)) (x:=(((⟨(1:Int),(0:Int),(0:Int),(0:Int),e.Value⟩:aD)):aD)) (M I) q_r ⟨(M I),Q⟩)<|cU I I<|cU I I<|bM bJ aj I<|bj I<|af<|cq 10 I<|so h▸dc (ts:=[Z ac r.1,bf r.2]) (rvs:=[.cell 10 62,.tmp 11]) I I ⟨di bJ I I I,bH I,Q⟩ ix I I
  ·refine gp<|aR<|aU mf gY cF I<|dn I<|bX h I (fun h=>?_) (fun h=>?_)
   ·refine aV<|d (vP La (M I))<|aU tz oM ja I<|aU qT mo ja I<|d (bS (y:=(⟨e.Table,e.Name⟩:jY)) vB aae Ai (⟨_,_,_,_,_,I,IQ,I,(M I),⟨_,_,_,_,_,I,IP,I,(M I),I⟩⟩))<|cu h fun r1 q_r1 h=>jf (pS (dY (xs:=[.tmp 45,.tmp 50]) (ts:=[tV (an b 0),Z fI (⟨e.Table,e.Name⟩:jY)]) (dq b s ix) _ I Xt (TJ b ix s _ q_r1) ⟨(M I),(M I),Q⟩ (fun _=>I))) I fun i1=>?_;refine(show RG _ _ _ _ [_,_,_,_,_,_,_,_,_,_,_,_] ((51,tT [bf r1.1,bf r1.2])::_)from ?_);refine aY I<|cU I I<|cU I I<|gx I<|bh I ?_;refine xM (tD:=fun at1 e1=>eD s leaf at1 e1=some R) (Of:=fun at1 e1=>[bx ac 62 b1 th,bx (rH aS (z10 ix s)) 127 b s,K aP 3 (ix.h 0).1 (ix.h 0).2 s.out.Tables,K av 71 (ix.h 1).1 (ix.h 1).2 s.out.Joins,K aP 3 (ix.h 2).1 (ix.h 2).2 s.out.Keys,K aT 73 (ix.h 3).1 (ix.h 3).2 s.out.Aggs,K ac 62 (ix.h 4).1 (ix.h 4).2 s.out.Items,K aP 3 (ix.h 5).1 (ix.h 5).2 s.kinds,K aP 3 (ix.h 6).1 (ix.h 6).2 s.groups,ci mW ew (ix.h 7).2 none (ix.oss 0) s.called,ci fe ew (ix.h 8).2 none (ix.oss 1) s.alone,eO (fun y:Int=>bf y) lc (ix.h 9).2 s.behind]) (Gf:=fun at1 e1=>[(3,bo (rT ((jT bd DE H1 (fun(x:aD)=>leaf x)))) ()),(10,tV (an b1 0)),(13,bf at1),(14,bf e1)]) (fun at1 e1 h=>?_) (fun aw=>?_)
    ·skip
     refine aR<|aY I<|ib I<|bX h I (fun h=>?_) (fun h=>?_)
     ·exact aV<|d (bS bJ BX cZ I)<|aY I<|bM bJ aj I<|bj I<|af<|af<|cq 10 I<|so h▸dc (ts:=[Z ac th,bf e1]) (rvs:=[.cell 10 62,.tmp 11]) I I ⟨di bJ I I I,bH I,Q⟩ ix I I
     ·exact gp<|aV<|d (ua K8 (M I))<|aY I<|d (bS (y:=(⟨(2:Int),(0:Int),(0:Int),at1,HV⟩:aD)) eH yQ iN (⟨_,_,_,_,_,I,kR,I,hI,⟨_,_,_,_,_,I,sN,I,(M I),I⟩⟩))<|cu h fun r2 q_r2 h=>d (ku (args:=DE) (res:=XT) (f:=(fun(x:aD)=>leaf x)) (x:=(((⟨(2:Int),(0:Int),(0:Int),at1,HV⟩:aD)):aD)) (M I) q_r2 ⟨(M I),Q⟩)<|cU I I<|cU I I<|bM bJ aj I<|bj I<|af<|cq 10 I<|so h▸dc (ts:=[Z ac r2.1,bf r2.2]) (rvs:=[.cell 10 62,.tmp 11]) I I ⟨di bJ I I I,bH I,Q⟩ ix I I
    ·skip
     refine aI I<|dn I<|aY I<|ax I (de I)<|eZ I<|bX h I (fun h=>?_) (fun h=>?_)
     ·refine aV<|d (vP La (M I))<|d (bm (M I))<|bu 10 gE I<|bu 16 uD I<|d (cR fV I (.head _) (.tail _ (.tail _ (.tail _ (.head _)))) (M I))<|aY I<|eg h abk (VX _ _) ⟨(kp (M I)),(M I),Q⟩ fun r3 h=>bh I<|aI I<|d (eN (M I) hI)<|bX h I (fun h=>?_) (fun h=>?_)
      ·refine aL<|bF<|br<|al<|al<|al<|al<|al<|al<|al<|al<|al<|al<|al<|cr ?_;exact cj (aw r3 (225:Int) h) (a8 I)
      ·refine bl<|al<|al<|al<|al<|al<|al<|al<|al<|al<|al<|al<|cr ?_;exact cj (aw r3 r1.2 h) (a8 I)
     ·refine bl<|al<|al<|al<|al<|al<|al<|al<|al<|al<|al<|al<|cr ?_;exact cj (aw r1.1 r1.2 h) (a8 I)
   ·refine gp<|aV<|d (ua IE (M I))<|aU mf gY cF I<|d (EN (γ:=(fun y:Int=>Z aP y)) (z:=(0:Int)) FX (yg vy) zv3 (fun S=>⟨_,I,(fun _=>I) S⟩) (M I) (N2 (M I)))<|bh I<|aV<|ck false ac 62<|d (cg zf)<|bP<|aR<|aU wL p8 cF I<|aU yr ru cF I ?_;refine d (sQ (r:=aP) (ys:=[e.L,e.R]) (xs:=[.tmp 83,.tmp 85]) FO cF I JN I I ⟨(M I),(M I),Q⟩)<|d (bB hI)<|bP ?_;refine Sg (tD:=fun parts l c x ob ix1=>gR leaf tags over group e parts x ob=some R) (Of:=fun parts l c x ob (ix1:OI)=>[f6 ac 62 l c parts,bx ac 62 b1 x,bx (rH aS (z10 ix1 ob)) 127 b ob,K aP 3 (ix1.h 0).1 (ix1.h 0).2 ob.out.Tables,K av 71 (ix1.h 1).1 (ix1.h 1).2 ob.out.Joins,K aP 3 (ix1.h 2).1 (ix1.h 2).2 ob.out.Keys,K aT 73 (ix1.h 3).1 (ix1.h 3).2 ob.out.Aggs,K ac 62 (ix1.h 4).1 (ix1.h 4).2 ob.out.Items,K aP 3 (ix1.h 5).1 (ix1.h 5).2 ob.kinds,K aP 3 (ix1.h 6).1 (ix1.h 6).2 ob.groups,ci mW ew (ix1.h 7).2 none (ix1.oss 0) ob.called,ci fe ew (ix1.h 8).2 none (ix1.oss 1) ob.alone,eO (fun y:Int=>bf y) lc (ix1.h 9).2 ob.behind]) (Gf:=fun parts l c x ob ix1=>[(1,iD group),(3,bo (rT ((jT bd DE H1 (fun(x:aD)=>leaf x)))) ()),(4,bo (rT (tV (an b 0))) ()),(7,bo (rT (Gd (mY bd xS (dq b) JC over))) ()),(10,tV (an b1 0)),(12,bo dd e),(15,bf ((ie tags e.Tag).getD (0:Int))),(16,sy l c parts)]) (fun parts l c x ob ix1 h=>?_) (fun K1=>?_)
    ·skip
     refine aq<|aA<|ai<|aI I<|d (eX (M I) hI)<|aY I<|ax I (de I)<|ax I (rJ I)<|eZ I<|bh I<|lO h I (fun h=>?_) (fun h=>?_)
     ·exact aV<|d (bS bJ BX cZ I)<|dS<|bM bJ aj I<|dG<|bT<|cq 10 I<|aM<|so h▸dc (ts:=[Z ac th,bf 224]) (rvs:=[.cell 10 62,.tmp 11]) I I ⟨di bJ I I I,bH I,Q⟩ ix1 I I
     ·refine aI I<|d (eX (M I) hI)<|bh I<|lO h I (fun h=>?_) (fun h=>?_)
      ·refine aI I<|d (bS (y:=(⟨((ie tags e.Tag).getD (0:Int)),th⟩:lb)) ut aag F2 (⟨_,_,_,_,_,I,Lr,I,(M I),I⟩))<|aX ut F2 I fun b3=>bM ut aj I<|bP ?_;refine ia (tD:=fun a1=>fQ leaf ob a1=some R) (Of:=fun a1=>[bx ac 62 b1 x,bx aT 73 b3 a1,bx (rH aS (z10 ix1 ob)) 127 b ob,K aP 3 (ix1.h 0).1 (ix1.h 0).2 ob.out.Tables,K av 71 (ix1.h 1).1 (ix1.h 1).2 ob.out.Joins,K aP 3 (ix1.h 2).1 (ix1.h 2).2 ob.out.Keys,K aT 73 (ix1.h 3).1 (ix1.h 3).2 ob.out.Aggs,K ac 62 (ix1.h 4).1 (ix1.h 4).2 ob.out.Items,K aP 3 (ix1.h 5).1 (ix1.h 5).2 ob.kinds,K aP 3 (ix1.h 6).1 (ix1.h 6).2 ob.groups,ci mW ew (ix1.h 7).2 none (ix1.oss 0) ob.called,ci fe ew (ix1.h 8).2 none (ix1.oss 1) ob.alone,eO (fun y:Int=>bf y) lc (ix1.h 9).2 ob.behind]) (Gf:=fun a1=>[(3,bo (rT ((jT bd DE H1 (fun(x:aD)=>leaf x)))) ()),(4,bo (rT (tV (an b 0))) ()),(10,tV (an b1 0)),(21,tV (an b3 0))]) (fun a1 h=>?_) (fun K2=>?_)
       ·skip
        refine aV<|d (vP La (M I))<|d (bA ut I I cE (.tail _ (.head _)) (M I))<|cu h fun r4 q_r4 h=>jf (Cj (pS (dY (xs:=[.tmp 133,.tmp 134]) (ts:=[tV (an b 0),Z aT a1]) (dq b ob ix1) _ I abj (Y7 b ix1 ob _ q_r4) ⟨(M I),(M I),Q⟩ (fun _=>I)))) I fun i2=>?_;refine(show RG _ _ _ _ [_,_,_,_,_,_,_,_,_,_,_,_,_] ((135,tT [bf r4.1,bf r4.2.1])::_)from ?_);refine aY I<|cU I I<|cU I I<|gx I<|bh I<|aR<|aY I<|ib I<|bX h I (fun h=>?_) (fun h=>?_)
        ·exact aV<|d (bS bJ BX cZ I)<|aY I<|Cf<|bM bJ aj I<|bj I<|af<|bT<|cq 10 I<|cr<|aM<|so h▸dc (ts:=[Z ac th,bf r4.2.1]) (rvs:=[.cell 10 62,.tmp 11]) I I ⟨di bJ I I I,bH I,Q⟩ i2 I I
        ·exact gp<|aV<|d (ua K8 (M I))<|aY I<|d (bS (y:=(⟨(2:Int),(0:Int),(0:Int),r4.1,HV⟩:aD)) eH yQ iN (⟨_,_,_,_,_,I,kR,I,hI,⟨_,_,_,_,_,I,sN,I,(M I),I⟩⟩))<|cu h fun r5 q_r5 h=>d (ku (args:=DE) (res:=XT) (f:=(fun(x:aD)=>leaf x)) (x:=(((⟨(2:Int),(0:Int),(0:Int),r4.1,HV⟩:aD)):aD)) (M I) q_r5 ⟨(M I),Q⟩)<|cU I I<|cU I I<|Cf<|bM bJ aj I<|bj I<|bT<|cq 10 I<|cr<|aM<|so h▸dc (ts:=[Z ac r5.1,bf r5.2]) (rvs:=[.cell 10 62,.tmp 11]) I I ⟨di bJ I I I,bH I,Q⟩ i2 I I
       ·skip
        refine aI I<|d (ip oQ (.tail _ (.head _)) (M I))<|d (eX (M I) hI)<|bX h I (fun h=>?_) (fun h=>?_)
        ·refine aL<|aY I<|cu h fun e2 q_e2 h=>d (cz oQ bJ (.tail _ (.head _)) (M I) hI q_e2)<|d (dN (r:=ac) (i:=(0:Int)) (foff:=0) bJ I I cE I (.tail _ (.head _)) q_e2 (M I))<|bu 1 yn I<|bM bJ Lq I<|br<|dI<|aM<|bW<|bW<|bW<|bW<|bW<|bW<|bW<|bW<|bW<|bW<|bW<|cr<|bW ?_;exact cj (K2 (lb.mk (⟨((ie tags e.Tag).getD (0:Int)),th⟩:lb).Tag e2) h) (a8 I)
        ·refine bl<|dI<|aM<|bW<|bW<|bW<|bW<|bW<|bW<|bW<|bW<|bW<|bW<|bW<|cr<|bW ?_;exact cj (K2 (⟨((ie tags e.Tag).getD (0:Int)),th⟩:lb) h) (a8 I)
      ·refine bl<|bn<|aq<|aA<|cu h fun e3 q_e3 h=>cu h fun r6 q_r6 h=>?_
       refine er 11 [tc (bo aP e.Tag),tc (bf e.Tag),tc (sy l c parts),tc (tV (dO l ((0:Int).toNat*1+0))),tc (Z ac e3),tc (tT [Z ac r6.1,bf r6.2]),tc (tT [Z ac r6.1,bf r6.2]),tc (Z ac r6.1),tc (bf r6.2),([9],fun s=>tV (an ((s.getD 0 oD).h 0).2 0)),tc (tS)] [false,false,false,false,false,false,false,false,false,true,true] [fun _=>[f6 ac 62 l c parts,bx ac 62 b1 x,bx (rH aS (z10 ix1 ob)) 127 b ob,K aP 3 (ix1.h 0).1 (ix1.h 0).2 ob.out.Tables,K av 71 (ix1.h 1).1 (ix1.h 1).2 ob.out.Joins,K aP 3 (ix1.h 2).1 (ix1.h 2).2 ob.out.Keys,K aT 73 (ix1.h 3).1 (ix1.h 3).2 ob.out.Aggs,K ac 62 (ix1.h 4).1 (ix1.h 4).2 ob.out.Items,K aP 3 (ix1.h 5).1 (ix1.h 5).2 ob.kinds,K aP 3 (ix1.h 6).1 (ix1.h 6).2 ob.groups,ci mW ew (ix1.h 7).2 none (ix1.oss 0) ob.called,ci fe ew (ix1.h 8).2 none (ix1.oss 1) ob.alone,eO (fun y:Int=>bf y) lc (ix1.h 9).2 ob.behind],fun sg=>[bx ac 62 ((sg 9).h 0).2 th,f6 ac 62 l c parts,bx ac 62 b1 x,bx (rH aS (z10 ix1 ob)) 127 b ob,K aP 3 (ix1.h 0).1 (ix1.h 0).2 ob.out.Tables,K av 71 (ix1.h 1).1 (ix1.h 1).2 ob.out.Joins,K aP 3 (ix1.h 2).1 (ix1.h 2).2 ob.out.Keys,K aT 73 (ix1.h 3).1 (ix1.h 3).2 ob.out.Aggs,K ac 62 (ix1.h 4).1 (ix1.h 4).2 ob.out.Items,K aP 3 (ix1.h 5).1 (ix1.h 5).2 ob.kinds,K aP 3 (ix1.h 6).1 (ix1.h 6).2 ob.groups,ci mW ew (ix1.h 7).2 none (ix1.oss 0) ob.called,ci fe ew (ix1.h 8).2 none (ix1.oss 1) ob.alone,eO (fun y:Int=>bf y) lc (ix1.h 9).2 ob.behind],fun sg=>[bx ac 62 ((sg 9).h 0).2 r6.1,f6 ac 62 l c parts,bx ac 62 b1 x,bx (rH aS (z10 ix1 ob)) 127 b ob,K aP 3 (ix1.h 0).1 (ix1.h 0).2 ob.out.Tables,K av 71 (ix1.h 1).1 (ix1.h 1).2 ob.out.Joins,K aP 3 (ix1.h 2).1 (ix1.h 2).2 ob.out.Keys,K aT 73 (ix1.h 3).1 (ix1.h 3).2 ob.out.Aggs,K ac 62 (ix1.h 4).1 (ix1.h 4).2 ob.out.Items,K aP 3 (ix1.h 5).1 (ix1.h 5).2 ob.kinds,K aP 3 (ix1.h 6).1 (ix1.h 6).2 ob.groups,ci mW ew (ix1.h 7).2 none (ix1.oss 0) ob.called,ci fe ew (ix1.h 8).2 none (ix1.oss 1) ob.alone,eO (fun y:Int=>bf y) lc (ix1.h 9).2 ob.behind]] I mixed I I I I I
        ⟨⟨[⟨12,fun _=>bo dd e,none⟩],_,0,1,I,⟨(fun _=>I),Q⟩,I,I,I,I,I,fun _ sg _ _=>h2 I (kO mf gY I I)⟩,
        ⟨⟨[⟨149,fun _=>bo aP e.Tag,some 0⟩],_,0,1,I,⟨(fun _=>I),Q⟩,I,I,I,I,I,fun _ sg _ _=>h2 I (nM cF I I)⟩,
        ⟨⟨[⟨16,fun _=>tV (Y l c parts.length),none⟩],_,0,1,I,⟨(fun _=>I),Q⟩,I,I,I,I,I,fun _ sg _ _=>h2 I (fR I)⟩,
        ⟨⟨[⟨151,fun _=>tV (Y l c parts.length),some 2⟩],_,0,1,I,⟨(fun _=>I),Q⟩,I,I,I,I,I,ur (fun sg=>h2 I (cz oQ bJ (.head _) (M I) hI q_e3)) (fM (fun sg=>h2 I (cz oQ bJ (.tail _ (.head _)) (M I) hI q_e3)))⟩,
        ⟨⟨[⟨152,fun _=>tV (dO l ((0:Int).toNat*1+0)),some 3⟩],_,0,1,I,⟨(fun _=>I),Q⟩,I,I,I,I,I,ur (fun sg=>h2 I (dN (r:=ac) (i:=(0:Int)) (foff:=0) bJ I I cE I (.head _) q_e3 (M I))) (fM (fun sg=>h2 I (dN (r:=ac) (i:=(0:Int)) (foff:=0) bJ I I cE I (.tail _ (.head _)) q_e3 (M I))))⟩,
        ⟨⟨[⟨150,fun _=>Z aP e.Tag,some 1⟩,⟨153,fun _=>Z ac e3,some 4⟩],_,0,1,I,⟨(fun _=>I),(fun _=>I),Q⟩,I,I,I,I,I,fun _ sg _ _=>h2 I (bq abi (VW _ _ q_r6) ⟨(M I),(M I),Q⟩)⟩,
        ⟨⟨[⟨154,fun _=>tT [Z ac r6.1,Z aP r6.2],some 5⟩],_,0,1,I,⟨(fun _=>I),Q⟩,I,I,I,I,I,fun _ sg _ _=>h2 I (fR I)⟩,
        ⟨⟨[⟨148,fun _=>tT [Z ac r6.1,Z aP r6.2],some 6⟩],_,0,1,I,⟨(fun _=>I),Q⟩,I,I,I,I,I,fun _ sg _ _=>h2 I (w9 I I)⟩,
        ⟨⟨[⟨148,fun _=>tT [Z ac r6.1,Z aP r6.2],some 6⟩],_,0,2,I,⟨(fun _=>I),Q⟩,I,I,I,I,I,fun _ sg _ _=>h2 I (w9 I I)⟩,
        ⟨⟨[],_,I,Q,I,I,I,fun sg=>bL I (lM bJ cZ)⟩,
        ⟨⟨[⟨24,fun sg=>tV (an ((sg 9).h 0).2 0),some 9⟩,⟨155,fun _=>Z ac r6.1,some 7⟩],_,I,⟨(fun _=>I),(fun _=>I),Q⟩,I,I,I,fun sg=>bL I (dr bJ I (uy aj) I (M I) (M I))⟩,
        Q⟩⟩⟩⟩⟩⟩⟩⟩⟩⟩⟩ (fun sg=>?_)
       refine(show RG _ _ _ _ [_,_,_,_,_,_,_,_,_,_,_,_,_,_] _ from ?_);refine bh I ?_;refine xM (tD:=fun e4 x1=>iX over group ob e4 x1=some R) (Of:=fun e4 x1=>[bx ac 62 b1 x,bx ac 62 ((sg 9).h 0).2 x1,bx (rH aS (z10 ix1 ob)) 127 b ob,K aP 3 (ix1.h 0).1 (ix1.h 0).2 ob.out.Tables,K av 71 (ix1.h 1).1 (ix1.h 1).2 ob.out.Joins,K aP 3 (ix1.h 2).1 (ix1.h 2).2 ob.out.Keys,K aT 73 (ix1.h 3).1 (ix1.h 3).2 ob.out.Aggs,K ac 62 (ix1.h 4).1 (ix1.h 4).2 ob.out.Items,K aP 3 (ix1.h 5).1 (ix1.h 5).2 ob.kinds,K aP 3 (ix1.h 6).1 (ix1.h 6).2 ob.groups,ci mW ew (ix1.h 7).2 none (ix1.oss 0) ob.called,ci fe ew (ix1.h 8).2 none (ix1.oss 1) ob.alone,eO (fun y:Int=>bf y) lc (ix1.h 9).2 ob.behind]) (Gf:=fun e4 x1=>[(1,iD group),(7,bo (rT (Gd (mY bd xS (dq b) JC over))) ()),(10,tV (an b1 0)),(24,tV (an ((sg 9).h 0).2 0)),(25,bf e4)]) (fun e4 x1 h=>?_) (fun K3=>?_)
       ·skip
        refine vw (tD:=fun e5 ob1 ix2=>pN x1 e5 ob1=some R) (Of:=fun e5 ob1 (ix2:OI)=>[bx ac 62 b1 x,bx ac 62 ((sg 9).h 0).2 x1,bx (rH aS (z10 ix2 ob1)) 127 b ob1,K aP 3 (ix2.h 0).1 (ix2.h 0).2 ob1.out.Tables,K av 71 (ix2.h 1).1 (ix2.h 1).2 ob1.out.Joins,K aP 3 (ix2.h 2).1 (ix2.h 2).2 ob1.out.Keys,K aT 73 (ix2.h 3).1 (ix2.h 3).2 ob1.out.Aggs,K ac 62 (ix2.h 4).1 (ix2.h 4).2 ob1.out.Items,K aP 3 (ix2.h 5).1 (ix2.h 5).2 ob1.kinds,K aP 3 (ix2.h 6).1 (ix2.h 6).2 ob1.groups,ci mW ew (ix2.h 7).2 none (ix2.oss 0) ob1.called,ci fe ew (ix2.h 8).2 none (ix2.oss 1) ob1.alone,eO (fun y:Int=>bf y) lc (ix2.h 9).2 ob1.behind]) (Gf:=fun e5 ob1 ix2=>[(10,tV (an b1 0)),(24,tV (an ((sg 9).h 0).2 0)),(25,bf e5)]) (fun e5 ob1 ix2 h=>?_) (fun K4=>?_)
        ·skip
         exact aV<|d (bA bJ I I cE (.tail _ (.head _)) (M I))<|aY I<|bM bJ aj I<|bj I<|cq 10 I<|aM<|so h▸dc (ts:=[Z ac x1,bf e5]) (rvs:=[.cell 10 62,.tmp 11]) I I ⟨di bJ I I I,bH I,Q⟩ ix2 I I
        ·skip
         refine aI I<|dn I<|bX h I (fun h=>?_) (fun h=>?_)
         ·refine cu h fun r7 q_r7 h=>cu h fun r8 q_r8 h=>?_
          refine er 8 [tc (Z ac x1),tc (mY bd xS (dq b) JC over),tc (iD group),tc (qn r7.1),tc (tT [bf r8.1,bf r8.2]),tc (tT [bf r8.1,bf r8.2]),tc (bf r8.1),tc (bf r8.2)] [false,false,false,true,false,false,false,false] [fun _=>[bx ac 62 b1 x,bx ac 62 ((sg 9).h 0).2 x1,bx (rH aS (z10 ix1 ob)) 127 b ob,K aP 3 (ix1.h 0).1 (ix1.h 0).2 ob.out.Tables,K av 71 (ix1.h 1).1 (ix1.h 1).2 ob.out.Joins,K aP 3 (ix1.h 2).1 (ix1.h 2).2 ob.out.Keys,K aT 73 (ix1.h 3).1 (ix1.h 3).2 ob.out.Aggs,K ac 62 (ix1.h 4).1 (ix1.h 4).2 ob.out.Items,K aP 3 (ix1.h 5).1 (ix1.h 5).2 ob.kinds,K aP 3 (ix1.h 6).1 (ix1.h 6).2 ob.groups,ci mW ew (ix1.h 7).2 none (ix1.oss 0) ob.called,ci fe ew (ix1.h 8).2 none (ix1.oss 1) ob.alone,eO (fun y:Int=>bf y) lc (ix1.h 9).2 ob.behind],fun sg1=>[bx (rH aS [(10,Y ((sg1 3).h 0).1 ((sg1 3).h 0).2 r7.2.out.Tables.length),(11,Y ((sg1 3).h 1).1 ((sg1 3).h 1).2 r7.2.out.Joins.length),(16,Y ((sg1 3).h 2).1 ((sg1 3).h 2).2 r7.2.out.Keys.length),(17,Y ((sg1 3).h 3).1 ((sg1 3).h 3).2 r7.2.out.Aggs.length),(18,Y ((sg1 3).h 4).1 ((sg1 3).h 4).2 r7.2.out.Items.length),(22,Y ((sg1 3).h 5).1 ((sg1 3).h 5).2 r7.2.kinds.length),(23,Y ((sg1 3).h 6).1 ((sg1 3).h 6).2 r7.2.groups.length),(19,aH ((sg1 3).h 7).2),(20,aH ((sg1 3).h 8).2),(21,aH ((sg1 3).h 9).2)]) 127 b r7.2,K aP 3 ((sg1 3).h 0).1 ((sg1 3).h 0).2 r7.2.out.Tables,K av 71 ((sg1 3).h 1).1 ((sg1 3).h 1).2 r7.2.out.Joins,K aP 3 ((sg1 3).h 2).1 ((sg1 3).h 2).2 r7.2.out.Keys,K aT 73 ((sg1 3).h 3).1 ((sg1 3).h 3).2 r7.2.out.Aggs,K ac 62 ((sg1 3).h 4).1 ((sg1 3).h 4).2 r7.2.out.Items,K aP 3 ((sg1 3).h 5).1 ((sg1 3).h 5).2 r7.2.kinds,K aP 3 ((sg1 3).h 6).1 ((sg1 3).h 6).2 r7.2.groups,ci mW ew ((sg1 3).h 7).2 none ((sg1 3).oss 0) r7.2.called,ci fe ew ((sg1 3).h 8).2 none ((sg1 3).oss 1) r7.2.alone,eO (fun y:Int=>bf y) lc ((sg1 3).h 9).2 r7.2.behind,bx ac 62 ((sg 9).h 0).2 x1,bx ac 62 b1 x]] I mixed I I I I I
           ⟨⟨[⟨24,fun _=>tV (an ((sg 9).h 0).2 0),none⟩],_,0,1,I,⟨(fun _=>I),Q⟩,I,I,I,I,I,ur (fun sg1=>h2 I (bA bJ I I cE (.tail _ (.head _)) (M I))) (fM (fun sg1=>h2 I (bA bJ I I cE (.tail _ (.tail _ (.tail _ (.tail _ (.tail _ (.tail _ (.tail _ (.tail _ (.tail _ (.tail _ (.tail _ (.head _)))))))))))) (M I))))⟩,
           ⟨⟨[⟨7,fun _=>bo (rT (Gd (mY bd QP (dq b) QQ over))) (),none⟩],_,0,0,I,⟨(fun _=>I),Q⟩,I,I,I,I,I,fun _ sg1 _ _=>h2 I (IZ Pj (M I))⟩,
           ⟨⟨[⟨1,fun _=>Z rB group,none⟩],_,0,0,I,⟨(fun _=>I),Q⟩,I,I,I,I,I,fun _ sg1 _ _=>h2 I (fR I)⟩,
           ⟨⟨[⟨176,fun _=>mY bd QP (dq b) QQ over,some 1⟩,⟨177,fun _=>Z rB group,some 2⟩],_,I,⟨(fun _=>I),(fun _=>I),Q⟩,I,I,I,fun sg1=>bL I (Cj (pS (yw (args:=QP) (Ob:=dq b) (res:=QQ) (f:=over) (x:=ob) (y:=((group):Bool)) (R:=r7) (i:=ix1) (xs:=[.tmp 177]) _ I (M I) q_r7 ⟨(M I),Q⟩ (fun _=>I))))⟩,
           ⟨⟨[⟨175,fun _=>Z ac x1,some 0⟩,⟨178,fun _=>Z DD r7.1,some 3⟩],_,1,1,I,⟨(fun _=>I),(fun _=>I),Q⟩,I,I,I,I,I,fun _ sg1 _ _=>h2 I (bq WC (Kp _ _ q_r8) ⟨(M I),(M I),Q⟩)⟩,
           ⟨⟨[⟨179,fun _=>tT [Z aP r8.1,Z aP r8.2],some 4⟩],_,1,1,I,⟨(fun _=>I),Q⟩,I,I,I,I,I,fun _ sg1 _ _=>h2 I (fR I)⟩,
           ⟨⟨[⟨174,fun _=>tT [Z aP r8.1,Z aP r8.2],some 5⟩],_,1,1,I,⟨(fun _=>I),Q⟩,I,I,I,I,I,fun _ sg1 _ _=>h2 I (w9 I I)⟩,
           ⟨⟨[⟨174,fun _=>tT [Z aP r8.1,Z aP r8.2],some 5⟩],_,1,1,I,⟨(fun _=>I),Q⟩,I,I,I,I,I,fun _ sg1 _ _=>h2 I (w9 I I)⟩,
           Q⟩⟩⟩⟩⟩⟩⟩⟩ (fun sg1=>?_)
          refine(show RG _ _ _ _ [_,_,_,_,_,_,_,_,_,_,_,_,_] _ from ?_);refine gx I<|br<|al<|al<|al<|al<|al<|al<|al<|al<|al<|al<|al<|cr<|bW ?_;exact cj (K4 r8.2 r7.2 (sg1 3) h) (a8 I)
         ·refine bl ?_;exact cj (K4 e4 ob ix1 h) (a8 I)
       ·skip
        refine aI I<|d (ip oQ (.tail _ (.head _)) (M I))<|dn I<|bX h I (fun h=>?_) (fun h=>?_)
        ·refine cu h fun e6 q_e6 h=>cu h fun r9 q_r9 h=>?_
         refine er 13 [tc (bo aP e.Tag),tc (bf e.Tag),tc (sy l c parts),tc (tV (dO l ((0:Int).toNat*1+0))),tc (Z ac e3),tc (sy l c parts),tc (tV (dO l ((1:Int).toNat*1+0))),tc (Z ac e6),tc (tT [Z ac r9.1,bf r9.2]),tc (tT [Z ac r9.1,bf r9.2]),tc (Z ac r9.1),tc (bf r9.2),tc (tS)] [false,false,false,false,false,false,false,false,false,false,false,false,true] [fun _=>[bx ac 62 ((sg 9).h 0).2 r6.1,f6 ac 62 l c parts,bx ac 62 b1 x,bx (rH aS (z10 ix1 ob)) 127 b ob,K aP 3 (ix1.h 0).1 (ix1.h 0).2 ob.out.Tables,K av 71 (ix1.h 1).1 (ix1.h 1).2 ob.out.Joins,K aP 3 (ix1.h 2).1 (ix1.h 2).2 ob.out.Keys,K aT 73 (ix1.h 3).1 (ix1.h 3).2 ob.out.Aggs,K ac 62 (ix1.h 4).1 (ix1.h 4).2 ob.out.Items,K aP 3 (ix1.h 5).1 (ix1.h 5).2 ob.kinds,K aP 3 (ix1.h 6).1 (ix1.h 6).2 ob.groups,ci mW ew (ix1.h 7).2 none (ix1.oss 0) ob.called,ci fe ew (ix1.h 8).2 none (ix1.oss 1) ob.alone,eO (fun y:Int=>bf y) lc (ix1.h 9).2 ob.behind],fun sg2=>[bx ac 62 ((sg 9).h 0).2 r9.1,f6 ac 62 l c parts,bx ac 62 b1 x,bx (rH aS (z10 ix1 ob)) 127 b ob,K aP 3 (ix1.h 0).1 (ix1.h 0).2 ob.out.Tables,K av 71 (ix1.h 1).1 (ix1.h 1).2 ob.out.Joins,K aP 3 (ix1.h 2).1 (ix1.h 2).2 ob.out.Keys,K aT 73 (ix1.h 3).1 (ix1.h 3).2 ob.out.Aggs,K ac 62 (ix1.h 4).1 (ix1.h 4).2 ob.out.Items,K aP 3 (ix1.h 5).1 (ix1.h 5).2 ob.kinds,K aP 3 (ix1.h 6).1 (ix1.h 6).2 ob.groups,ci mW ew (ix1.h 7).2 none (ix1.oss 0) ob.called,ci fe ew (ix1.h 8).2 none (ix1.oss 1) ob.alone,eO (fun y:Int=>bf y) lc (ix1.h 9).2 ob.behind]] I mixed I I I I I
          ⟨⟨[⟨12,fun _=>bo dd e,none⟩],_,0,0,I,⟨(fun _=>I),Q⟩,I,I,I,I,I,fun _ sg2 _ _=>h2 I (kO mf gY I I)⟩,
          ⟨⟨[⟨161,fun _=>bo aP e.Tag,some 0⟩],_,0,0,I,⟨(fun _=>I),Q⟩,I,I,I,I,I,fun _ sg2 _ _=>h2 I (nM cF I I)⟩,
          ⟨⟨[⟨16,fun _=>tV (Y l c parts.length),none⟩],_,0,0,I,⟨(fun _=>I),Q⟩,I,I,I,I,I,fun _ sg2 _ _=>h2 I (fR I)⟩,
          ⟨⟨[⟨163,fun _=>tV (Y l c parts.length),some 2⟩],_,0,0,I,⟨(fun _=>I),Q⟩,I,I,I,I,I,fM (fun sg2=>h2 I (cz oQ bJ (.tail _ (.head _)) (M I) hI q_e3))⟩,
          ⟨⟨[⟨164,fun _=>tV (dO l ((0:Int).toNat*1+0)),some 3⟩],_,0,0,I,⟨(fun _=>I),Q⟩,I,I,I,I,I,fM (fun sg2=>h2 I (dN (r:=ac) (i:=(0:Int)) (foff:=0) bJ I I cE I (.tail _ (.head _)) q_e3 (M I)))⟩,
          ⟨⟨[⟨16,fun _=>tV (Y l c parts.length),none⟩],_,0,0,I,⟨(fun _=>I),Q⟩,I,I,I,I,I,fun _ sg2 _ _=>h2 I (fR I)⟩,
          ⟨⟨[⟨166,fun _=>tV (Y l c parts.length),some 5⟩],_,0,0,I,⟨(fun _=>I),Q⟩,I,I,I,I,I,fM (fun sg2=>h2 I (cz oQ bJ (.tail _ (.head _)) (M I) hI q_e6))⟩,
          ⟨⟨[⟨167,fun _=>tV (dO l ((1:Int).toNat*1+0)),some 6⟩],_,0,0,I,⟨(fun _=>I),Q⟩,I,I,I,I,I,fM (fun sg2=>h2 I (dN (r:=ac) (i:=(1:Int)) (foff:=0) bJ I I cE I (.tail _ (.head _)) q_e6 (M I)))⟩,
          ⟨⟨[⟨162,fun _=>Z aP e.Tag,some 1⟩,⟨165,fun _=>Z ac e3,some 4⟩,⟨168,fun _=>Z ac e6,some 7⟩],_,0,0,I,⟨(fun _=>I),(fun _=>I),(fun _=>I),Q⟩,I,I,I,I,I,fun _ sg2 _ _=>h2 I (bq abh (VV _ _ _ q_r9) ⟨(M I),(M I),(M I),Q⟩)⟩,
          ⟨⟨[⟨169,fun _=>tT [Z ac r9.1,Z aP r9.2],some 8⟩],_,0,0,I,⟨(fun _=>I),Q⟩,I,I,I,I,I,fun _ sg2 _ _=>h2 I (fR I)⟩,
          ⟨⟨[⟨160,fun _=>tT [Z ac r9.1,Z aP r9.2],some 9⟩],_,0,0,I,⟨(fun _=>I),Q⟩,I,I,I,I,I,fun _ sg2 _ _=>h2 I (w9 I I)⟩,
          ⟨⟨[⟨160,fun _=>tT [Z ac r9.1,Z aP r9.2],some 9⟩],_,0,1,I,⟨(fun _=>I),Q⟩,I,I,I,I,I,fun _ sg2 _ _=>h2 I (w9 I I)⟩,
          ⟨⟨[⟨24,fun _=>tV (an ((sg 9).h 0).2 0),none⟩,⟨170,fun _=>Z ac r9.1,some 10⟩],_,I,⟨(fun _=>I),(fun _=>I),Q⟩,I,I,I,fun sg2=>bL I (dr bJ I (uy aj) I (M I) (M I))⟩,
          Q⟩⟩⟩⟩⟩⟩⟩⟩⟩⟩⟩⟩⟩ (fun sg2=>?_)
         refine(show RG _ _ _ _ [_,_,_,_,_,_,_,_,_,_,_,_,_,_] _ from ?_);refine gx I<|br<|dI<|aM<|bW<|bW<|bW<|bW<|bW<|bW<|bW<|bW<|bW<|bW<|bW<|cr<|bW ?_;exact cj (K3 r9.2 r9.1 h) (a8 I)
        ·refine bl<|dI<|aM<|bW<|bW<|bW<|bW<|bW<|bW<|bW<|bW<|bW<|bW<|bW<|cr<|bW ?_;exact cj (K3 r6.2 r6.1 h) (a8 I)
    ·skip
     refine bp ?_;refine ay (QF (tD:=fun k i3 parts1 l15 c15 x2 ob2 ix3=>(2-i3=k)/\eC (cy fu) t leaf tags over group e k i3 parts1 x2 ob2=some R) (Of:=fun _ i3 parts1 l15 c15 x2 ob2 (ix3:OI)=>[f6 ac 62 l15 c15 parts1,bx ac 62 b1 x2,bx (rH aS (z10 ix3 ob2)) 127 b ob2,K aP 3 (ix3.h 0).1 (ix3.h 0).2 ob2.out.Tables,K av 71 (ix3.h 1).1 (ix3.h 1).2 ob2.out.Joins,K aP 3 (ix3.h 2).1 (ix3.h 2).2 ob2.out.Keys,K aT 73 (ix3.h 3).1 (ix3.h 3).2 ob2.out.Aggs,K ac 62 (ix3.h 4).1 (ix3.h 4).2 ob2.out.Items,K aP 3 (ix3.h 5).1 (ix3.h 5).2 ob2.kinds,K aP 3 (ix3.h 6).1 (ix3.h 6).2 ob2.groups,ci mW ew (ix3.h 7).2 none (ix3.oss 0) ob2.called,ci fe ew (ix3.h 8).2 none (ix3.oss 1) ob2.alone,eO (fun y:Int=>bf y) lc (ix3.h 9).2 ob2.behind]) (Gf:=fun _ i3 parts1 l15 c15 x2 ob2 ix3=>[(1,iD group),(3,bo (rT ((jT bd DE H1 (fun(x:aD)=>leaf x)))) ()),(4,bo (rT (tV (an b 0))) ()),(6,UU 178 [bo bD t,bo (rT ((jT bd DE H1 (fun(x:aD)=>leaf x)))) (),bo (rT (tV (an b 0))) (),bo (rT (DH (fun y:Int=>bf y) uQ tags)) ()] [bo (rT (Gd (mY bd xS (dq b) JC over))) ()] bslf),(7,bo (rT (Gd (mY bd xS (dq b) JC over))) ()),(10,tV (an b1 0)),(12,bo dd e),(15,bf ((ie tags e.Tag).getD (0:Int))),(16,sy l15 c15 parts1),(86,Z JD ([e.L,e.R])),(87,bf (i3:Int))]) (fun i3 parts1 l15 c15 x2 ob2 ix3 h=>?_) (fun k1 ih1 i3 parts1 l15 c15 x2 ob2 ix3 h=>?_) 2 0 ([]:List aZ) none 0 th s ix ⟨I,h⟩) (a8 I)
     ·obtain⟨D,h⟩:=h
      refine dw<|aV<|d (eN (M I) hI)<|bP<|aA<|qM (M I) (Rx D)<|ep<|aE<|aE<|cK ?_;exact cj (K1 parts1 l15 c15 x2 ob2 ix3 h) (a8 I)
     ·obtain⟨D,h⟩:=h
      refine dw<|aV<|d (eN (M I) hI)<|bP<|aA<|qL (M I) (Rw D)<|gp<|aA<|ai<|aV<|cu h fun e8 q_e8 h=>d (xz FO cF I I (M I) (M I) q_e8)<|bh I<|aR<|aY I<|d (eN (M I) hI) ?_;refine bX h I (fun h=>?_) (fun h=>?_)
      ·refine ep<|aE<|cY I<|aE<|aE<|cK ?_;exact cj (K1 parts1 l15 c15 x2 ob2 ix3 h) (a8 I)
      ·refine gp<|aV<|d (I0 Pi (M I))<|aY I<|aY I<|aY I<|ax I (de I)<|ax I (mX I)<|eZ I<|cu h fun r10 q_r10 h=>jf (Cj (pS (Hp (xs:=[.tmp 94,.tmp 99]) (ts:=[bf e8,iD (group&&(((ie tags e.Tag).getD (0:Int))==(0:Int)))]) (dq b ob2 ix3) _ I (M I) (cp:= .tmp 6) (M I) Xo (ihR b ix3 bslf ob2 _ _ _ _ _ _ q_r10) ⟨(M I),(M I),Q⟩ (fun _=>I)))) I fun i4=>?_;refine(show RG _ _ _ _ [_,_,_,_,_,_,_,_,_,_,_,_,_] ((100,tT [Z ac r10.1,bf r10.2.1])::_)from ?_);refine aY I<|cU I I<|cU I I<|aX bJ cZ I fun b4=>bM bJ aj I<|aQ 19 I<|bh I<|aR<|aY I<|ib I<|bX h I (fun h=>?_) (fun h=>?_)
       ·exact aV<|cM bJ I<|aY I<|Cg<|bM bJ aj I<|bj I<|af<|bT<|af<|bT<|cq 10 I<|cr<|aM<|so h▸dc (ts:=[Z ac r10.1,bf r10.2.1]) (rvs:=[.cell 10 62,.tmp 11]) I I ⟨di bJ I I I,bH I,Q⟩ i4 I I
       ·refine gp<|aL<|aY I<|cM bJ I<|d (ba (r:=ac) (ys:=[r10.1]) (xs:=[.tmp 108]) oQ bJ I I I I I ⟨(M I),Q⟩)<|Cf<|cu h fun parts2 q_parts2 h=>dZ bJ I I I I oQ I I (M I) (M I) q_parts2 fun l23 c23=>gx I<|br<|bn<|aq<|aL<|d (wB (NV D (by decide)) (M I) hI)<|aY I<|br<|cr<|cr<|cr<|cr<|cr<|cr<|cr ?_;refine cr<|cr<|cr<|cr<|bW<|bW ?_;exact aO (ay (ih1 (i3+1) parts2 l23 c23 x2 r10.2.2 i4 ⟨NU D,h⟩) (a8 I))
def Y8(b:Nat)(ix:OI)(bslf:Nat) s t leaf tags over i group{R}(h:sn s t leaf tags over i group=some R):ea bd 178 [bf i,iD group,bo bD t,bo (rT ((jT bd DE H1 (fun(x:aD)=>leaf x)))) (),bo (rT (tV (an b 0))) (),bo (rT (DH (fun y:Int=>bf y) uQ tags)) (),UU 178 [bo bD t,bo (rT ((jT bd DE H1 (fun(x:aD)=>leaf x)))) (),bo (rT (tV (an b 0))) (),bo (rT (DH (fun y:Int=>bf y) uQ tags)) ()] [bo (rT (Gd (mY bd xS (dq b) JC over))) ()] bslf,bo (rT (Gd (mY bd xS (dq b) JC over))) ()] (dq b s ix) (fun _:OI=>tT [Z ac R.1,bf R.2.1]) (fun j=>dq b R.2.2 j):=TG fc b ix bslf s t leaf tags over i group h

end Go.Proofs.YthbdkceckjihgaaGreatDoor

