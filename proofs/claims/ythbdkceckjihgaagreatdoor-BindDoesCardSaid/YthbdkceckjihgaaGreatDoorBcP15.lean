/- dm of this claim: P15. -/
import Derived.Test.YthbdkceckjihgaaGreatDoorBcT
import Derived.Test.YthbdkceckjihgaaGreatDoorBcP14
set_option linter.all false
namespace Go.Proofs.YthbdkceckjihgaaGreatDoor
open Go
set_option maxRecDepth 100000

def Qi tag{R}(h:kT tag=some R):cN bd 125 [bf tag] (iD R):=by
 exact dp Tryz.func125 I<|aV<|bC<|bP<|aI I<|dn I<|aY I<|ap I (de I)<|ap I (fun V=>ff (bE I V) hI)<|ap I (rn I)<|em I I I I (fun V=>fR I)<|em I I I I (fun V=>kr (bE I V) hI)<|ap I (fun V=>jr (bE I V) (fun A=>(bE I (sr V A))))<|dU I<|bj I<|so h▸au I I

def AC a1 b{R}(h:lV a1 b=some R):cN bd 110 [Z ac a1,Z ac b] (iD R):=by
 refine dp Tryz.func110 I<|aV<|cL I<|cL I<|bC<|bP<|aR<|aU jV ge sB I<|bY mv I<|aU jV ge sB I<|bY mv I<|d (du (M I) (M I))<|bX h I (fun h=>?_) (fun h=>?_)
 ·exact aV<|bC<|cA<|af<|so h▸au I I
 ·refine gp<|aR<|aU jV ge sB I<|bY mv I<|d (bB hI)<|bP<|ai<|aN (k:=14) I fun hN=>bp ?_;refine ay (dx (tD:=fun ls i=>(a1.Nodes.drop i=ls)/\qx b ls i=some R) (Of:=fun _ i=>[]) (Gf:=fun _ i=>[(2,bo ac a1),(3,bo ac b),(15,iG a1.Nodes),(16,bf (i:Int))]) (fun i h=>?_) (fun e tl ih i h=>?_) a1.Nodes 0 ⟨I,h⟩) (a8 I)
  ·obtain⟨D,h⟩:=h
   exact dh D I<|aq<|aV<|bC<|cA<|so h▸au I I
  ·obtain⟨D,h⟩:=h
   refine dg D I<|aA<|ai<|aI I<|bh I<|aA<|cu h fun e1 q_e1 h=>?_
   refine d8 (ts:=[_,_,_,_,_,_,_,_,_,_,_]) mixed I I
    ⟨qN 2 I I (kO jV ge I I),
    ⟨fA 0 sB I I,
    ⟨fv I I,
    ⟨eh 20 1 21 2 I I I (uR mv eH I I I (cW D)),
    ⟨fA 3 eH I I,
    ⟨qN 3 I I (kO jV ge I I),
    ⟨fA 5 sB I I,
    ⟨fv I I,
    ⟨eh 25 6 26 7 I I I (uR mv eH I I I q_e1),
    ⟨fA 8 eH I I,
    ⟨eh 23 4 28 9 I I I (qS Xk (M I) (M I)),
    Q⟩⟩⟩⟩⟩⟩⟩⟩⟩⟩⟩ ?_
   refine aq<|lO h I (fun h=>?_) (fun h=>?_)
   ·exact aV<|bC<|cA<|bT<|af<|bT<|so h▸au I I
   ·refine bl<|cS D hN I ?_;exact aO (ay (ih (i+1) ⟨cO D,h⟩) (a8 I))

def Y6(b1:Nat)(ix:OI) b a1{R}(h:nf b a1=some R):ea bd 185 [tV (an b1 0),Z aT a1] (kw b1 b ix) (fun _:OI=>tT [Z ac R.1,bf R.2.1]) (fun j=>kw b1 R.2.2 j):=by
 refine ea.of Tryz.func185 I I I fun w0 S0=>?_;refine(show CG _ _ _ [bx (rH bv (z11 ix b)) 137 b1 b,K be 48 (ix.h 0).1 (ix.h 0).2 b.sources,K aP 3 (ix.h 1).1 (ix.h 1).2 b.out.Tables,K av 71 (ix.h 2).1 (ix.h 2).2 b.out.Joins,K aP 3 (ix.h 3).1 (ix.h 3).2 b.out.Keys,K aT 73 (ix.h 4).1 (ix.h 4).2 b.out.Aggs,K ac 62 (ix.h 5).1 (ix.h 5).2 b.out.Items] _ from ?_);refine aV<|cL I<|aX bJ cZ I fun b2=>bF<|bP<|aA<|aA<|cu h fun r q_r h=>cu h fun r1 q_r1 h=>?_
 refine d8 (ts:=[_,_,_,_,_,_,_,_,_,_,_,_,_,_,_,_,_]) mixed I I
  ⟨qN 3 I I (nM ut I I),
  ⟨fv I I,
  ⟨fL 13 1 I I (bm (M I)),
  ⟨fL 14 2 I I (lu 0 wM I I I),
  ⟨fL 15 3 I I (bA (r:=rH bv (z11 ix b)) (x:=b) pl I I (nI mG) (.tail _ (.head _)) (M I)),
  ⟨fv I I,
  ⟨fL 17 5 I I (bm (M I)),
  ⟨fL 18 6 I I (lu 2 eU I I I),
  ⟨fL 19 7 I I (lu 2 rh I I I),
  ⟨fL 20 8 I I (cR fV I (.tail _ (.head _)) (.tail _ (.tail _ (.tail _ (.head _)))) (M I)),
  ⟨eh 16 4 21 9 I I I (bq R2 (Ko _ _ q_r) ⟨(M I),(kp (M I)),Q⟩),
  ⟨eh 12 0 22 10 I I I (bq Xp (Qa _ _ q_r1) ⟨(M I),(M I),Q⟩),
  ⟨fL 23 11 I I (fR I),
  ⟨fL 11 12 I I (w9 I I),
  ⟨fL 11 12 I I (w9 I I),
  ⟨fL 24 13 I I (Cm I),
  ⟨fL 25 14 I I (Cm I),
  Q⟩⟩⟩⟩⟩⟩⟩⟩⟩⟩⟩⟩⟩⟩⟩⟩⟩ ?_
 refine aq<|aI I<|d (fD (M I))<|bX h I (fun h=>?_) (fun h=>?_)
 ·exact aV<|d (bS bJ BX cZ I)<|bM bJ aj I<|dG<|af<|cq 4 I<|ae<|ae<|ae<|ae<|ae<|ae<|ae<|so h▸dc (ts:=[Z ac th,bf 201]) (rvs:=[.cell 4 62,.tmp 5]) I I ⟨di bJ I I I,bH I,Q⟩ ix I I
 ·refine gp<|aI I<|d (bm (M I))<|bu 2 eU I<|bu 9 nZ I<|d (cR xU I (.tail _ (.head _)) (.tail _ (.tail _ (.tail _ (.tail _ (.tail _ (.tail _ (.head _))))))) (M I))<|d (fO wi (kp (M I)))<|bh I<|aR<|aY I<|d (bm (M I))<|bu 2 eU I<|bu 9 nZ I<|d (cR xU I (.tail _ (.head _)) (.tail _ (.tail _ (.tail _ (.tail _ (.tail _ (.tail _ (.head _))))))) (M I))<|d (fO wi (kp (M I)))<|d (bB hI)<|br ?_;refine aq<|ai<|Ex<|vx 39 I<|aN (k:=39) I fun hN=>bp<|rz<|hZ<|rz<|rz<|rz<|rz<|rz<|rz ?_;refine ay (jX (tD:=fun ls i at1=>(b.out.Aggs.drop i=ls)/\fx b a1 ls i at1=some R) (Of:=fun _ i at1=>[bx ac 62 b2 th,bx (rH bv (z11 ix b)) 137 b1 b,K be 48 (ix.h 0).1 (ix.h 0).2 b.sources,K aP 3 (ix.h 1).1 (ix.h 1).2 b.out.Tables,K av 71 (ix.h 2).1 (ix.h 2).2 b.out.Joins,K aP 3 (ix.h 3).1 (ix.h 3).2 b.out.Keys,K aT 73 (ix.h 4).1 (ix.h 4).2 b.out.Aggs,K ac 62 (ix.h 5).1 (ix.h 5).2 b.out.Items]) (Gf:=fun _ i at1=>[(0,tV (an b1 0)),(3,bo aT a1),(4,tV (an b2 0)),(8,bf at1),(39,gb (aT) b.out.Aggs),(40,iG b.out.Aggs),(41,bf (i:Int))]) (fun i at1 h=>?_) (fun e tl ih i at1 h=>?_) b.out.Aggs 0 (b.out.Aggs.length:Int) ⟨I,h⟩) (a8 I)
  ·obtain⟨D,h⟩:=h
   refine dh D I<|aq ?_;refine yI (tD:=fun ob l c l1 c1 l2 c2 l3 c3 l4 c4 l5 c5=>lh at1 ob=some R) (Of:=fun ob l c l1 c1 l2 c2 l3 c3 l4 c4 l5 c5=>[bx ac 62 b2 th,bx (rH bv [(1,Y l c ob.sources.length),(2,Y l1 c1 ob.out.Tables.length),(3,Y l2 c2 ob.out.Joins.length),(8,Y l3 c3 ob.out.Keys.length),(9,Y l4 c4 ob.out.Aggs.length),(10,Y l5 c5 ob.out.Items.length)]) 137 b1 ob,K be 48 l c ob.sources,K aP 3 l1 c1 ob.out.Tables,K av 71 l2 c2 ob.out.Joins,K aP 3 l3 c3 ob.out.Keys,K aT 73 l4 c4 ob.out.Aggs,K ac 62 l5 c5 ob.out.Items]) (Gf:=fun ob l c l1 c1 l2 c2 l3 c3 l4 c4 l5 c5=>[(0,tV (an b1 0)),(4,tV (an b2 0)),(8,bf at1)]) (fun ob l c l1 c1 l2 c2 l3 c3 l4 c4 l5 c5 h=>?_) (fun aw=>?_)
   ·skip
    refine aR<|aY I<|d (bm (M I))<|bu 2 eU I<|bu 9 nZ I<|d (cR xU I (.tail _ (.head _)) (.tail _ (.tail _ (.tail _ (.tail _ (.tail _ (.tail _ (.head _))))))) (M I))<|d (fO wi (kp (M I)))<|d (eX (M I) hI)<|bX h I (fun h=>?_) (fun h=>?_)
    ·exact aV<|d (bS bJ BX cZ I)<|bM bJ aj I<|dG<|af<|cq 4 I<|ae<|ae<|ae<|ae<|ae<|ae<|ae<|so h▸dc (ts:=[Z ac th,bf 228]) (rvs:=[.cell 4 62,.tmp 5]) I I ⟨di bJ I I I,bH I,Q⟩ (Fy [(l,c),(l1,c1),(l2,c2),(l3,c3),(l4,c4),(l5,c5)]) I I
    ·refine gp<|aI I<|d (bm (M I))<|bu 2 eU I<|bu 8 uD I<|d (cR fV I (.tail _ (.head _)) (.tail _ (.tail _ (.tail _ (.tail _ (.tail _ (.head _)))))) (M I))<|d (fO fH (kp (M I)))<|aY I<|d (fq (M I) (M I))<|d (bS (y:=(⟨(2:Int),(0:Int),(0:Int),(IntKind.i64.wrap ((ob.out.Keys.length:Int)+at1)),HV⟩:aD)) eH yQ iN (⟨_,_,_,_,_,I,kR,I,hI,⟨_,_,_,_,_,I,sN,I,(M I),I⟩⟩))<|eg h Jo (AD _ _) ⟨(M I),RH,Q⟩ fun r2 h=>bM bJ aj I<|dG<|cq 4 I<|ae<|ae<|ae ?_;exact ae<|ae<|ae<|ae<|so h▸dc (ts:=[Z ac r2,bf 0]) (rvs:=[.cell 4 62,.tmp 5]) I I ⟨di bJ I I I,bH I,Q⟩ (Fy [(l,c),(l1,c1),(l2,c2),(l3,c3),(l4,c4),(l5,c5)]) I I
   ·skip
    refine aI I<|aY I<|d (bm (M I))<|bu 2 eU I<|bu 9 nZ I<|d (cR xU I (.tail _ (.head _)) (.tail _ (.tail _ (.tail _ (.tail _ (.tail _ (.tail _ (.head _))))))) (M I))<|d (fO wi (kp (M I)))<|d (m6 (M I) (M I))<|bX h I (fun h=>?_) (fun h=>?_)
    ·refine cu h fun l6 q_l6 h=>?_
     refine er 9 [tc (tV (an b1 0)),tc (tV (an b1 0)),tc (tV (an b1 0)),tc (tV (an b1 2)),tc (tV (an b1 9)),tc (tO aT (ix.h 4).1 (ix.h 4).2 b.out.Aggs),tc (Z aT a1),tc (gb (aT) ([a1])),([8],fun s=>tO aT ((s.getD 0 oD).h 0).1 ((s.getD 0 oD).h 0).2 l6)] [false,false,false,false,false,false,false,false,true] [fun _=>[bx ac 62 b2 th,bx (rH bv (z11 ix b)) 137 b1 b,K be 48 (ix.h 0).1 (ix.h 0).2 b.sources,K aP 3 (ix.h 1).1 (ix.h 1).2 b.out.Tables,K av 71 (ix.h 2).1 (ix.h 2).2 b.out.Joins,K aP 3 (ix.h 3).1 (ix.h 3).2 b.out.Keys,K aT 73 (ix.h 4).1 (ix.h 4).2 b.out.Aggs,K ac 62 (ix.h 5).1 (ix.h 5).2 b.out.Items],fun sg=>[K aT 73 ((sg 8).h 0).1 ((sg 8).h 0).2 l6,bx ac 62 b2 th,bx (rH bv (z11 ix b)) 137 b1 b,K be 48 (ix.h 0).1 (ix.h 0).2 b.sources,K aP 3 (ix.h 1).1 (ix.h 1).2 b.out.Tables,K av 71 (ix.h 2).1 (ix.h 2).2 b.out.Joins,K aP 3 (ix.h 3).1 (ix.h 3).2 b.out.Keys,K ac 62 (ix.h 5).1 (ix.h 5).2 b.out.Items]] I mixed I I I I I
      ⟨⟨[⟨0,fun _=>tV (an b1 0),none⟩],_,0,1,I,⟨(fun _=>I),Q⟩,I,I,I,I,I,fun _ sg _ _=>h2 I (fR I)⟩,
      ⟨⟨[⟨0,fun _=>tV (an b1 0),none⟩],_,0,0,I,⟨(fun _=>I),Q⟩,I,I,I,I,I,fun _ sg _ _=>h2 I (fR I)⟩,
      ⟨⟨[⟨69,fun _=>tV (an b1 0),some 1⟩],_,0,0,I,⟨(fun _=>I),Q⟩,I,I,I,I,I,fun _ sg _ _=>h2 I (bm (M I))⟩,
      ⟨⟨[⟨70,fun _=>tV (an b1 0),some 2⟩],_,0,0,I,⟨(fun _=>I),Q⟩,I,I,I,I,I,fun _ sg _ _=>h2 I (lu 2 eU I I I)⟩,
      ⟨⟨[⟨71,fun _=>tV (an b1 2),some 3⟩],_,0,0,I,⟨(fun _=>I),Q⟩,I,I,I,I,I,fun _ sg _ _=>h2 I (lu 9 nZ I I I)⟩,
      ⟨⟨[⟨72,fun _=>tV (an b1 9),some 4⟩],_,0,0,I,⟨(fun _=>I),Q⟩,I,I,I,I,I,fM (fun sg=>h2 I (cR xU I (.tail _ (.head _)) (.tail _ (.tail _ (.tail _ (.tail _ (.tail _ (.tail _ (.head _))))))) (M I)))⟩,
      ⟨⟨[⟨3,fun _=>bo aT a1,none⟩],_,0,0,I,⟨(fun _=>I),Q⟩,I,I,I,I,I,fun _ sg _ _=>h2 I (nM ut I I)⟩,
      ⟨⟨[⟨74,fun _=>Z aT a1,some 6⟩],_,0,0,I,⟨(fun _=>I),Q⟩,I,I,I,I,I,fun _ sg _ _=>h2 I (ba (r:=aT) (ys:=[a1]) (xs:=[.tmp 74]) wi ut I I I I I ⟨(M I),Q⟩)⟩,
      ⟨⟨[⟨73,fun _=>tO aT (ix.h 4).1 (ix.h 4).2 b.out.Aggs,some 5⟩,⟨75,fun _=>Z (eM aT) ([a1]),some 7⟩],_,I,⟨(fun _=>I),(fun _=>I),Q⟩,I,I,I,fun sg=>bL I (EffOK.fr6 (iq ut I I I I wi I (M I) (M I) q_l6))⟩,
      Q⟩⟩⟩⟩⟩⟩⟩⟩⟩ (fun sg=>?_)
     refine(show RG _ _ _ _ [_,_,_,_,_,_,_,_] _ from ?_);refine d (bm (M I))<|bu 2 eU I<|bu 9 nZ I<|fZ (EffOK.fr2 (il (hs' :=[(1,Y (ix.h 0).1 (ix.h 0).2 b.sources.length),(2,Y (ix.h 1).1 (ix.h 1).2 b.out.Tables.length),(3,Y (ix.h 2).1 (ix.h 2).2 b.out.Joins.length),(8,Y (ix.h 3).1 (ix.h 3).2 b.out.Keys.length),(9,Y ((sg 8).h 0).1 ((sg 8).h 0).2 l6.length),(10,Y (ix.h 5).1 (ix.h 5).2 b.out.Items.length)]) (u:=Y ((sg 8).h 0).1 ((sg 8).h 0).2 l6.length) xU I I (gc fP lz CD) I ⟨.inr ⟨I,I⟩,.inr ⟨I,I⟩,.inr ⟨I,I⟩,.inr ⟨I,I⟩,.inl ⟨I,I,I⟩,.inr ⟨I,I⟩,Q⟩ (M I) (kp (M I)) (tR (M I)))) fun i1=>?_;refine(show RG _ _ _ _ [_,_,_,_,_,_,_,_] _ from ?_);refine br<|dl<|gj<|dl<|dl<|dl<|dl<|ae<|dl ?_;exact cj (aw ({b with out:=({b.out with Aggs:=l6}:bb)}:aB) (ix.h 0).1 (ix.h 0).2 (ix.h 1).1 (ix.h 1).2 (ix.h 2).1 (ix.h 2).2 (ix.h 3).1 (ix.h 3).2 ((sg 8).h 0).1 ((sg 8).h 0).2 (ix.h 5).1 (ix.h 5).2 h) (a8 I)
    ·refine bl ?_;exact cj (aw b (ix.h 0).1 (ix.h 0).2 (ix.h 1).1 (ix.h 1).2 (ix.h 2).1 (ix.h 2).2 (ix.h 3).1 (ix.h 3).2 (ix.h 4).1 (ix.h 4).2 (ix.h 5).1 (ix.h 5).2 h) (a8 I)
  ·obtain⟨D,h⟩:=h
   refine dg D I<|aA<|ai<|aI I<|d9 wi ut I (cW D)<|aX ut F2 I fun b3=>gx I<|bM ut aj I<|aQ 10 I<|bP<|aA ?_;refine aL<|aU sf mJ cF I<|aU sf mJ cF I<|d (m6 (M I) (M I))<|aY I<|cu h fun t q_t h=>ax I (bQ yn ue I I)<|ax I (bN bJ I I)<|ax I (bQ yn ue I I)<|ax I (bN bJ I I) ?_
   obtain⟨r3,h1t,h0t⟩:=og q_t
   have q_r3g:=fun A=>(h1t A).1
   refine ax I (fun V=>bq Jn (AC _ _ (q_r3g V)) ⟨(bE I V),(bE I V),Q⟩)<|d (co (M I) (fun A=>(bE I A)) (fun A=>(h1t A).2) h0t)<|bX h I (fun h=>?_) (fun h=>?_)
   ·refine aL<|aY I<|gx I<|br<|cS D hN I ?_;exact aO (ay (ih (i+1) (i:Int) ⟨cO D,h⟩) (a8 I))
   ·refine bl<|cS D hN I ?_;exact aO (ay (ih (i+1) at1 ⟨cO D,h⟩) (a8 I))

def VS tag{R}(h:uZ tag=some R):cN bd 186 [bf tag] (bf R):=by
 refine dp Tryz.func186 I<|aV<|bF<|bP<|aR<|aY I<|bP<|ai<|aV<|dn I<|bh I<|lO h I (fun h=>?_) (fun h=>?_)
 ·exact aV<|dG<|bT<|so h▸au I I
 ·refine aV<|dn I<|bh I<|lO h I (fun h=>?_) (fun h=>?_)
  ·exact aV<|dG<|bT<|so h▸au I I
  ·refine aV<|dn I<|bh I<|lO h I (fun h=>?_) (fun h=>?_)
   ·exact aV<|dG<|bT<|so h▸au I I
   ·refine aV<|dn I<|bh I<|lO h I (fun h=>?_) (fun h=>?_)
    ·exact aV<|dG<|bT<|so h▸au I I
    ·exact bl<|bn<|aq<|aV<|dG<|so h▸au I I

def TH: ∀(fu:Nat) (b1:Nat) (ix:OI) (b:aB) (t:db) (place:Int) (group:Bool) {R:aZ×Int×aB} (h:cC fu b t place group=some R),ea bd 151 [tV (an b1 0),Z bD t,bf place,iD group] (kw b1 b ix) (fun _:OI=>tT [Z ac R.1,bf R.2.1]) (fun j=>kw b1 R.2.2 j):=by
 intro fu
 induction fu with
 |zero=>intro b1 ix b t place group R h;exact(nn h).elim
 |succ fu ihR=>
  intro b1 ix b t place group R h
  refine ea.of Tryz.func151 I I I fun w0 S0=>?_;refine(show CG _ _ _ [bx (rH bv (z11 ix b)) 137 b1 b,K be 48 (ix.h 0).1 (ix.h 0).2 b.sources,K aP 3 (ix.h 1).1 (ix.h 1).2 b.out.Tables,K av 71 (ix.h 2).1 (ix.h 2).2 b.out.Joins,K aP 3 (ix.h 3).1 (ix.h 3).2 b.out.Keys,K aT 73 (ix.h 4).1 (ix.h 4).2 b.out.Aggs,K ac 62 (ix.h 5).1 (ix.h 5).2 b.out.Items] _ from ?_);refine aV<|cL I<|aX bJ cZ I fun b2=>bF<|bP<|aV<|aU ik dX qi I<|aY I<|cu h fun e q_e h=>d9 nb ko I q_e<|aX ko wl I fun b3=>bM ko aj I<|aQ 10 I<|bP<|aA<|ai<|aV ?_;refine aU mf gY cF I<|dn I<|bh I<|lO h I (fun h=>?_) (fun h=>?_)
  ·exact aV<|aU qU lL lg I<|d (bS (y:=(⟨(1:Int),(0:Int),(0:Int),(0:Int),e.Value⟩:aD)) eH yQ iN (⟨_,_,_,_,_,I,kR,I,hI,⟨_,_,_,_,_,I,Gr,I,(M I),I⟩⟩))<|eg h Jo (AD _ _) ⟨(M I),RH,Q⟩ fun r h=>bM bJ aj I<|dG<|bT<|cq 8 I<|ae<|ae<|ae<|ae<|ae<|ae<|ae<|so h▸dc (ts:=[Z ac r,bf 0]) (rvs:=[.cell 8 62,.tmp 9]) I I ⟨di bJ I I I,bH I,Q⟩ ix I I
  ·refine aV<|aU mf gY cF I<|dn I<|bh I<|lO h I (fun h=>?_) (fun h=>?_)
   ·refine aI I<|aU tz oM ja I<|aU qT mo ja I<|cu h fun r1 q_r1 h=>jf (EffOK.fr7 (EffOK.fr7 (EffOK.fr7 (EffOK.fr7 (EffOK.fr7 (EffOK.fr7 (EffOK.fr7 (dY (xs:=[.tmp 41,.tmp 43,.tmp 45]) (ts:=[tV (an b1 0),Z rS e.Table,Z rS e.Name]) (kw b1 b ix) _ I XC (TM b1 ix b _ _ q_r1) ⟨(M I),(M I),(M I),Q⟩ (fun _=>I))))))))) I fun i=>?_;refine(show RG _ _ _ _ [_,_,_,_,_,_,_,_] ((46,tT [bf r1.1,bf r1.2])::_)from ?_);refine aY I<|cU I I<|cU I I<|gx I<|bh I ?_;refine xM (tD:=fun at1 x=>gK b r1 at1 x=some R) (Of:=fun at1 x=>[bx ac 62 b2 x,bx (rH bv (z11 ix b)) 137 b1 b,K be 48 (ix.h 0).1 (ix.h 0).2 b.sources,K aP 3 (ix.h 1).1 (ix.h 1).2 b.out.Tables,K av 71 (ix.h 2).1 (ix.h 2).2 b.out.Joins,K aP 3 (ix.h 3).1 (ix.h 3).2 b.out.Keys,K aT 73 (ix.h 4).1 (ix.h 4).2 b.out.Aggs,K ac 62 (ix.h 5).1 (ix.h 5).2 b.out.Items]) (Gf:=fun at1 x=>[(8,tV (an b2 0)),(11,bf at1),(12,bf r1.2)]) (fun at1 x h=>?_) (fun aw=>?_)
    ·skip
     exact aI I<|d (bS (y:=(⟨(2:Int),(0:Int),(0:Int),at1,HV⟩:aD)) eH yQ iN (⟨_,_,_,_,_,I,kR,I,hI,⟨_,_,_,_,_,I,sN,I,(M I),I⟩⟩))<|eg h Jo (AD _ _) ⟨(M I),RH,Q⟩ fun r2 h=>aY I<|bM bJ aj I<|bj I<|bT<|cq 8 I<|ae<|ae<|ae<|ae<|ae<|ae<|ae<|so h▸dc (ts:=[Z ac r2,bf r1.2]) (rvs:=[.cell 8 62,.tmp 9]) I I ⟨di bJ I I I,bH I,Q⟩ ix I I
    ·skip
     refine aI I<|dn I<|aY I<|ax I (de I)<|eZ I<|bX h I (fun h=>?_) (fun h=>?_)
     ·refine aV<|bF<|bP<|aR<|aY I<|d (bm (M I))<|bu 2 eU I<|bu 8 uD I<|d (cR fV I (.head _) (.tail _ (.tail _ (.tail _ (.tail _ (.head _))))) (M I))<|d (fO fH (kp (M I)))<|d (fm (M I) hI)<|bh I<|ai<|bp<|hY<|hY<|hY<|hY ?_;refine hY<|hY<|hY<|rz ?_;refine ay (QJ (tD:=fun n own i1=>dM b r1 n own i1=some R) (Of:=fun own i1=>[bx ac 62 b2 th,bx (rH bv (z11 ix b)) 137 b1 b,K be 48 (ix.h 0).1 (ix.h 0).2 b.sources,K aP 3 (ix.h 1).1 (ix.h 1).2 b.out.Tables,K av 71 (ix.h 2).1 (ix.h 2).2 b.out.Joins,K aP 3 (ix.h 3).1 (ix.h 3).2 b.out.Keys,K aT 73 (ix.h 4).1 (ix.h 4).2 b.out.Aggs,K ac 62 (ix.h 5).1 (ix.h 5).2 b.out.Items]) (Gf:=fun own i1=>[(0,tV (an b1 0)),(8,tV (an b2 0)),(11,bf r1.1),(12,bf r1.2),(13,bf own),(14,bf i1)]) (fun own i1 h=>nn h) (fun n ih1 own i1 h=>?_) fc mg (IntKind.i64.wrap ((b.out.Keys.length:Int)-(1:Int))) h) (a8 I);refine dw<|aR<|aY I<|d (ff (M I) hI)<|bX h I (fun h=>?_) (fun h=>?_)
      ·refine gp<|aA<|ai<|aI I<|d (bm (M I))<|bu 2 eU I<|bu 8 uD I<|d (cR fV I (.tail _ (.head _)) (.tail _ (.tail _ (.tail _ (.tail _ (.tail _ (.head _)))))) (M I))<|aY I<|cu h fun e1 q_e1 h=>d (d6 fH cF I (kp (M I)) (M I) q_e1)<|cM cF I<|aY I<|d (m6 (M I) (M I))<|bX h I (fun h=>?_) (fun h=>?_)
       ·refine aL<|aY I<|gx I<|br<|bn<|aq<|aL<|aY I<|d (fm (M I) hI)<|gx I<|br ?_;exact aO (ay (ih1 i1 (IntKind.i64.wrap (i1-(1:Int))) h) (a8 I))
       ·refine bl<|bn<|aq<|aL<|aY I<|d (fm (M I) hI)<|gx I<|br ?_;exact aO (ay (ih1 own (IntKind.i64.wrap (i1-(1:Int))) h) (a8 I))
      ·refine ep<|aE<|aE<|cK<|aq<|aI I<|bh I<|aI I<|d (eN (M I) hI)<|bX h I (fun h=>?_) (fun h=>?_)
       ·exact aV<|d (bS bJ BX cZ I)<|bM bJ aj I<|dG<|af<|bT<|cq 8 I<|ae<|ae<|ae<|ae<|ae<|ae<|ae<|so h▸dc (ts:=[Z ac th,bf 225]) (rvs:=[.cell 8 62,.tmp 9]) I I ⟨di bJ I I I,bH I,Q⟩ ix I I
       ·refine bl ?_;exact cj (aw own th h) (a8 I)
     ·refine bl<|ae<|ae<|ae<|ae<|ae<|ae<|ae<|dl ?_;exact cj (aw r1.1 th h) (a8 I)
   ·refine aV<|aU mf gY cF I<|eg h Xz (Qi _) (da I) fun r3 h=>bh I<|lO h I (fun h=>?_) (fun h=>?_)
    ·refine aV<|aX bJ cZ I fun b4=>bP<|aV<|bF<|bP ?_;refine Cl (tD:=fun e2 arg ob l c l1 c1 l2 c2 l3 c3 l4 c4 l5 c5=>iR group e e2 arg ob=some R) (Of:=fun e2 arg ob l c l1 c1 l2 c2 l3 c3 l4 c4 l5 c5=>[bx ac 62 b2 th,bx ac 62 b4 arg,bx (rH bv [(1,Y l c ob.sources.length),(2,Y l1 c1 ob.out.Tables.length),(3,Y l2 c2 ob.out.Joins.length),(8,Y l3 c3 ob.out.Keys.length),(9,Y l4 c4 ob.out.Aggs.length),(10,Y l5 c5 ob.out.Items.length)]) 137 b1 ob,K be 48 l c ob.sources,K aP 3 l1 c1 ob.out.Tables,K av 71 l2 c2 ob.out.Joins,K aP 3 l3 c3 ob.out.Keys,K aT 73 l4 c4 ob.out.Aggs,K ac 62 l5 c5 ob.out.Items]) (Gf:=fun e2 arg ob l c l1 c1 l2 c2 l3 c3 l4 c4 l5 c5=>[(0,tV (an b1 0)),(3,iD group),(8,tV (an b2 0)),(10,bo dd e),(15,tV (an b4 0)),(16,bf e2)]) (fun e2 arg ob l c l1 c1 l2 c2 l3 c3 l4 c4 l5 c5 h=>?_) (fun K1=>?_)
     ·skip
      refine ia (tD:=fun e3=>gJ e arg ob e3=some R) (Of:=fun e3=>[bx ac 62 b2 th,bx ac 62 b4 arg,bx (rH bv [(1,Y l c ob.sources.length),(2,Y l1 c1 ob.out.Tables.length),(3,Y l2 c2 ob.out.Joins.length),(8,Y l3 c3 ob.out.Keys.length),(9,Y l4 c4 ob.out.Aggs.length),(10,Y l5 c5 ob.out.Items.length)]) 137 b1 ob,K be 48 l c ob.sources,K aP 3 l1 c1 ob.out.Tables,K av 71 l2 c2 ob.out.Joins,K aP 3 l3 c3 ob.out.Keys,K aT 73 l4 c4 ob.out.Aggs,K ac 62 l5 c5 ob.out.Items]) (Gf:=fun e3=>[(0,tV (an b1 0)),(8,tV (an b2 0)),(10,bo dd e),(15,tV (an b4 0)),(16,bf e3)]) (fun e3 h=>?_) (fun K2=>?_)
      ·skip
       refine aR<|aY I<|ib I<|bX h I (fun h=>?_) (fun h=>?_)
       ·exact aV<|d (bS bJ BX cZ I)<|aY I<|bM bJ aj I<|bj I<|af<|bT<|cq 8 I<|aM<|ae<|ae<|ae<|ae<|ae<|ae<|ae<|so h▸dc (ts:=[Z ac th,bf e3]) (rvs:=[.cell 8 62,.tmp 9]) I I ⟨di bJ I I I,bH I,Q⟩ (Fy [(l,c),(l1,c1),(l2,c2),(l3,c3),(l4,c4),(l5,c5)]) I I
       ·refine gp<|aA<|cu h fun r4 q_r4 h=>cu h fun r5 q_r5 h=>?_
        refine er 9 [tc (tV (an b1 0)),tc (bo aP e.Tag),tc (bf e.Tag),tc (bf r4),tc (Z ac arg),tc (Z aT (⟨r4,arg⟩:lb)),tc (tT [Z ac r5.1,bf r5.2.1]),tc (Z ac r5.1),tc (bf r5.2.1)] [false,false,false,false,false,false,true,false,false] [fun _=>[bx ac 62 b2 th,bx ac 62 b4 arg,bx (rH bv [(1,Y l c ob.sources.length),(2,Y l1 c1 ob.out.Tables.length),(3,Y l2 c2 ob.out.Joins.length),(8,Y l3 c3 ob.out.Keys.length),(9,Y l4 c4 ob.out.Aggs.length),(10,Y l5 c5 ob.out.Items.length)]) 137 b1 ob,K be 48 l c ob.sources,K aP 3 l1 c1 ob.out.Tables,K av 71 l2 c2 ob.out.Joins,K aP 3 l3 c3 ob.out.Keys,K aT 73 l4 c4 ob.out.Aggs,K ac 62 l5 c5 ob.out.Items],fun sg=>[bx (rH bv [(1,Y ((sg 6).h 0).1 ((sg 6).h 0).2 r5.2.2.sources.length),(2,Y ((sg 6).h 1).1 ((sg 6).h 1).2 r5.2.2.out.Tables.length),(3,Y ((sg 6).h 2).1 ((sg 6).h 2).2 r5.2.2.out.Joins.length),(8,Y ((sg 6).h 3).1 ((sg 6).h 3).2 r5.2.2.out.Keys.length),(9,Y ((sg 6).h 4).1 ((sg 6).h 4).2 r5.2.2.out.Aggs.length),(10,Y ((sg 6).h 5).1 ((sg 6).h 5).2 r5.2.2.out.Items.length)]) 137 b1 r5.2.2,K be 48 ((sg 6).h 0).1 ((sg 6).h 0).2 r5.2.2.sources,K aP 3 ((sg 6).h 1).1 ((sg 6).h 1).2 r5.2.2.out.Tables,K av 71 ((sg 6).h 2).1 ((sg 6).h 2).2 r5.2.2.out.Joins,K aP 3 ((sg 6).h 3).1 ((sg 6).h 3).2 r5.2.2.out.Keys,K aT 73 ((sg 6).h 4).1 ((sg 6).h 4).2 r5.2.2.out.Aggs,K ac 62 ((sg 6).h 5).1 ((sg 6).h 5).2 r5.2.2.out.Items,bx ac 62 b2 th,bx ac 62 b4 arg]] I mixed I I I I I
         ⟨⟨[⟨0,fun _=>tV (an b1 0),none⟩],_,0,0,I,⟨(fun _=>I),Q⟩,I,I,I,I,I,fun _ sg _ _=>h2 I (fR I)⟩,
         ⟨⟨[⟨10,fun _=>bo dd e,none⟩],_,0,0,I,⟨(fun _=>I),Q⟩,I,I,I,I,I,fun _ sg _ _=>h2 I (kO mf gY I I)⟩,
         ⟨⟨[⟨110,fun _=>bo aP e.Tag,some 1⟩],_,0,0,I,⟨(fun _=>I),Q⟩,I,I,I,I,I,fun _ sg _ _=>h2 I (nM cF I I)⟩,
         ⟨⟨[⟨111,fun _=>Z aP e.Tag,some 2⟩],_,0,0,I,⟨(fun _=>I),Q⟩,I,I,I,I,I,fun _ sg _ _=>h2 I (bq abe (VS _ q_r4) ⟨(M I),Q⟩)⟩,
         ⟨⟨[⟨15,fun _=>tV (an b4 0),none⟩],_,0,0,I,⟨(fun _=>I),Q⟩,I,I,I,I,I,fM (fun sg=>h2 I (bA bJ I I cE (.tail _ (.head _)) (M I)))⟩,
         ⟨⟨[⟨112,fun _=>Z aP r4,some 3⟩,⟨113,fun _=>Z ac arg,some 4⟩],_,0,0,I,⟨(fun _=>I),(fun _=>I),Q⟩,I,I,I,I,I,fun _ sg _ _=>h2 I (bS (y:=(⟨r4,arg⟩:lb)) ut aag F2 (⟨_,_,_,_,_,I,Lr,I,(M I),⟨_,_,_,_,_,I,Lq,I,(M I),I⟩⟩))⟩,
         ⟨⟨[⟨109,fun _=>tV (an b1 0),some 0⟩,⟨114,fun _=>Z aT (⟨r4,arg⟩:lb),some 5⟩],_,I,⟨(fun _=>I),(fun _=>I),Q⟩,I,I,I,fun sg=>bL I (EffOK.fr8 (EffOK.fr8 (EffOK.fr8 (EffOK.fr8 (EffOK.fr8 (EffOK.fr8 (EffOK.fr8 (dY (xs:=[.tmp 109,.tmp 114]) (ts:=[tV (an b1 0),Z aT (⟨r4,arg⟩:lb)]) (kw b1 ob (Fy [(l,c),(l1,c1),(l2,c2),(l3,c3),(l4,c4),(l5,c5)])) _ I abf (Y6 b1 (Fy [(l,c),(l1,c1),(l2,c2),(l3,c3),(l4,c4),(l5,c5)]) ob _ q_r5) ⟨(M I),(M I),Q⟩ (fun _=>I)))))))))⟩,
         ⟨⟨[⟨115,fun _=>tT [Z ac r5.1,Z aP r5.2.1],some 6⟩],_,1,1,I,⟨(fun _=>I),Q⟩,I,I,I,I,I,fun _ sg _ _=>h2 I (w9 I I)⟩,
         ⟨⟨[⟨115,fun _=>tT [Z ac r5.1,Z aP r5.2.1],some 6⟩],_,1,1,I,⟨(fun _=>I),Q⟩,I,I,I,I,I,fun _ sg _ _=>h2 I (w9 I I)⟩,
         Q⟩⟩⟩⟩⟩⟩⟩⟩⟩ (fun sg=>?_)
        refine(show RG _ _ _ _ [_,_,_,_,_,_,_,_,_] _ from ?_);exact ta<|bM bJ aj I<|bj I<|bT<|cq 8 I<|dl<|aM<|ae<|ae<|ae<|ae<|ae<|ae<|ae<|so h▸dc (ts:=[Z ac r5.1,bf r5.2.1]) (rvs:=[.cell 8 62,.tmp 9]) I I ⟨di bJ I I I,bH I,Q⟩ (sg 6) I I
      ·skip
       refine aI I<|dn I<|aY I<|ax I (de I)<|ax I (rJ I)<|eZ I<|bX h I (fun h=>?_) (fun h=>?_)
       ·refine aL<|bF<|br ?_;exact cj (K2 (224:Int) h) (a8 I)
       ·refine bl ?_;exact cj (K2 e2 h) (a8 I)
     ·skip
      refine aV<|aU wL p8 cF I<|d (ff (M I) hI)<|bX h I (fun h=>?_) (fun h=>?_)
      ·refine aL<|aY I<|cM iw I<|aU wL p8 cF I<|cu h fun r6 q_r6 h=>jf (EffOK.fr8 (EffOK.fr8 (EffOK.fr8 (EffOK.fr8 (EffOK.fr8 (EffOK.fr8 (EffOK.fr8 (dY (xs:=[.tmp 92,.tmp 93,.tmp 95,.const (.bool false)]) (ts:=[tV (an b1 0),Z bD t,bf e.L,iD false]) (kw b1 b ix) _ I Qu (ihR b1 ix b _ _ _ q_r6) ⟨(M I),(M I),(M I),hB,Q⟩ (fun _=>I))))))))) I fun i2=>?_;refine(show RG _ _ _ _ [_,_,_,_,_,_,_,_,_] ((96,tT [Z ac r6.1,bf r6.2.1])::_)from ?_);refine aY I<|cU I I<|cU I I<|ta<|bM bJ aj I<|gx I<|br<|dl<|dl<|dl<|dl<|dl<|dl<|dl<|dl<|mu ?_;exact cj (K1 r6.2.1 r6.1 r6.2.2 (i2.h 0).1 (i2.h 0).2 (i2.h 1).1 (i2.h 1).2 (i2.h 2).1 (i2.h 2).2 (i2.h 3).1 (i2.h 3).2 (i2.h 4).1 (i2.h 4).2 (i2.h 5).1 (i2.h 5).2 h) (a8 I)
      ·refine bl<|mu<|mu<|mu<|mu<|mu<|mu<|mu<|dl<|mu ?_;exact cj (K1 (0:Int) th b (ix.h 0).1 (ix.h 0).2 (ix.h 1).1 (ix.h 1).2 (ix.h 2).1 (ix.h 2).2 (ix.h 3).1 (ix.h 3).2 (ix.h 4).1 (ix.h 4).2 (ix.h 5).1 (ix.h 5).2 h) (a8 I)
    ·refine bl<|bn<|aq<|aI I<|cM iw I<|aU wL p8 cF I<|aY I<|cu h fun r7 q_r7 h=>jf (EffOK.fr7 (EffOK.fr7 (EffOK.fr7 (EffOK.fr7 (EffOK.fr7 (EffOK.fr7 (EffOK.fr7 (dY (xs:=[.tmp 119,.tmp 120,.tmp 122,.tmp 123]) (ts:=[tV (an b1 0),Z bD t,bf e.L,iD group]) (kw b1 b ix) _ I Qu (ihR b1 ix b _ _ _ q_r7) ⟨(M I),(M I),(M I),(M I),Q⟩ (fun _=>I))))))))) I fun i3=>?_;refine(show RG _ _ _ _ [_,_,_,_,_,_,_,_] ((124,tT [Z ac r7.1,bf r7.2.1])::_)from ?_);refine aY I<|cU I I<|cU I I<|aX bJ cZ I fun b5=>bM bJ aj I<|aQ 17 I<|bh I<|aR<|aY I<|ib I<|bX h I (fun h=>?_) (fun h=>?_)
     ·exact aV<|d (bS bJ BX cZ I)<|aY I<|ta<|bM bJ aj I<|bj I<|af<|cq 8 I<|ae<|ae<|ae<|ae<|ae<|ae<|ae<|so h▸dc (ts:=[Z ac th,bf r7.2.1]) (rvs:=[.cell 8 62,.tmp 9]) I I ⟨di bJ I I I,bH I,Q⟩ i3 I I
     ·refine gp<|aV<|aU mf gY cF I<|d (bS (y:=(⟨e.Tag,(0:Int),(0:Int),(0:Int),HV⟩:aD)) eH yQ iN (⟨_,_,_,_,_,I,kR,I,(M I),I⟩))<|cM bJ I<|d (ba (r:=ac) (ys:=[r7.1]) (xs:=[.tmp 134]) oQ bJ I I I I I ⟨(M I),Q⟩)<|eg h Jo (AD _ _) (da I) fun r8 h=>aX bJ cZ I fun b6=>bM bJ aj I<|bP ?_;refine Cl (tD:=fun x1 out ob1 l6 c6 l7 c7 l8 c8 l9 c9 l10 c10 l11 c11=>iQ group x1 out ob1=some R) (Of:=fun x1 out ob1 l6 c6 l7 c7 l8 c8 l9 c9 l10 c10 l11 c11=>[bx ac 62 b2 x1,bx ac 62 b6 out,bx (rH bv [(1,Y l6 c6 ob1.sources.length),(2,Y l7 c7 ob1.out.Tables.length),(3,Y l8 c8 ob1.out.Joins.length),(8,Y l9 c9 ob1.out.Keys.length),(9,Y l10 c10 ob1.out.Aggs.length),(10,Y l11 c11 ob1.out.Items.length)]) 137 b1 ob1,K be 48 l6 c6 ob1.sources,K aP 3 l7 c7 ob1.out.Tables,K av 71 l8 c8 ob1.out.Joins,K aP 3 l9 c9 ob1.out.Keys,K aT 73 l10 c10 ob1.out.Aggs,K ac 62 l11 c11 ob1.out.Items]) (Gf:=fun x1 out ob1 l6 c6 l7 c7 l8 c8 l9 c9 l10 c10 l11 c11=>[(0,tV (an b1 0)),(3,iD group),(8,tV (an b2 0)),(19,tV (an b6 0))]) (fun x1 out ob1 l6 c6 l7 c7 l8 c8 l9 c9 l10 c10 l11 c11 h=>?_) (fun K3=>?_)
      ·skip
       refine aA<|cu h fun r9 q_r9 h=>?_
       refine d8 (ts:=[_,_,_,_,_,_,_,_,_,_,_]) mixed I I
        ⟨fv I I,
        ⟨fL 160 0 I I (bm (M I)),
        ⟨fL 161 1 I I (lu 0 wM I I I),
        ⟨fL 162 2 I I (bA (r:=rH bv [(1,Y l6 c6 ob1.sources.length),(2,Y l7 c7 ob1.out.Tables.length),(3,Y l8 c8 ob1.out.Joins.length),(8,Y l9 c9 ob1.out.Keys.length),(9,Y l10 c10 ob1.out.Aggs.length),(10,Y l11 c11 ob1.out.Items.length)]) (x:=ob1) pl I I (nI mG) (.tail _ (.tail _ (.head _))) (M I)),
        ⟨fv I I,
        ⟨fL 164 4 I I (bm (M I)),
        ⟨fL 165 5 I I (lu 2 eU I I I),
        ⟨fL 166 6 I I (lu 2 rh I I I),
        ⟨fL 167 7 I I (cR fV I (.tail _ (.tail _ (.head _))) (.tail _ (.tail _ (.tail _ (.tail _ (.head _))))) (M I)),
        ⟨eh 163 3 168 8 I I I (bq R2 (Ko _ _ q_r9) ⟨(M I),(kp (M I)),Q⟩),
        ⟨fL 169 9 I I (Cm I),
        Q⟩⟩⟩⟩⟩⟩⟩⟩⟩⟩⟩ ?_
       refine aq ?_;refine ia (tD:=fun kinds=>mB out ob1 kinds=some R) (Of:=fun kinds=>[bx ac 62 b2 x1,bx ac 62 b6 out,bx (rH bv [(1,Y l6 c6 ob1.sources.length),(2,Y l7 c7 ob1.out.Tables.length),(3,Y l8 c8 ob1.out.Joins.length),(8,Y l9 c9 ob1.out.Keys.length),(9,Y l10 c10 ob1.out.Aggs.length),(10,Y l11 c11 ob1.out.Items.length)]) 137 b1 ob1,K be 48 l6 c6 ob1.sources,K aP 3 l7 c7 ob1.out.Tables,K av 71 l8 c8 ob1.out.Joins,K aP 3 l9 c9 ob1.out.Keys,K aT 73 l10 c10 ob1.out.Aggs,K ac 62 l11 c11 ob1.out.Items]) (Gf:=fun kinds=>[(8,tV (an b2 0)),(19,tV (an b6 0)),(22,qn kinds)]) (fun kinds h=>?_) (fun K4=>?_)
       ·skip
        refine aV<|d (bA bJ I I cE (.tail _ (.head _)) (M I))<|aY I<|eg h Qy (FK _ _) (da I) fun r10 h=>aY I<|cU I I<|cU I I<|bh I<|aV<|d (bA bJ I I cE (.tail _ (.head _)) (M I))<|aY I<|bM bJ aj I<|bj I<|cq 8 I<|aM<|ae ?_;exact ae<|ae<|ae<|ae<|ae<|ae<|so h▸dc (ts:=[Z ac out,bf r10.2]) (rvs:=[.cell 8 62,.tmp 9]) I I ⟨di bJ I I I,bH I,Q⟩ (Fy [(l6,c6),(l7,c7),(l8,c8),(l9,c9),(l10,c10),(l11,c11)]) I I
       ·skip
        refine aI I<|bX h I (fun h=>?_) (fun h=>?_)
        ·refine cu h fun r11 q_r11 h=>?_
         refine d8 (ts:=[_,_,_,_,_,_,_,_,_,_]) mixed I I
          ⟨fv I I,
          ⟨fL 171 0 I I (bm (M I)),
          ⟨fL 172 1 I I (lu 0 wM I I I),
          ⟨fL 173 2 I I (bA (r:=rH bv [(1,Y l6 c6 ob1.sources.length),(2,Y l7 c7 ob1.out.Tables.length),(3,Y l8 c8 ob1.out.Joins.length),(8,Y l9 c9 ob1.out.Keys.length),(9,Y l10 c10 ob1.out.Aggs.length),(10,Y l11 c11 ob1.out.Items.length)]) (x:=ob1) pl I I (nI mG) (.tail _ (.tail _ (.head _))) (M I)),
          ⟨fv I I,
          ⟨fL 175 4 I I (bm (M I)),
          ⟨fL 176 5 I I (lu 2 eU I I I),
          ⟨fL 177 6 I I (bA (r:=rH bv [(1,Y l6 c6 ob1.sources.length),(2,Y l7 c7 ob1.out.Tables.length),(3,Y l8 c8 ob1.out.Joins.length),(8,Y l9 c9 ob1.out.Keys.length),(9,Y l10 c10 ob1.out.Aggs.length),(10,Y l11 c11 ob1.out.Items.length)]) (x:=ob1) BE I I (nI fP) (.tail _ (.tail _ (.head _))) (M I)),
          ⟨eh 174 3 178 7 I I I (bq Ud (Ql _ _ q_r11) ⟨(M I),(M I),Q⟩),
          ⟨fL 179 8 I I (Cm I),
          Q⟩⟩⟩⟩⟩⟩⟩⟩⟩⟩ ?_
         exact cj (K4 r11 h) (a8 I)
        ·refine bl ?_;exact cj (K4 r9 h) (a8 I)
      ·skip
       refine aV<|aU yr ru cF I<|d (ff (M I) hI)<|bX h I (fun h=>?_) (fun h=>?_)
       ·refine aI I<|cM iw I<|aU yr ru cF I<|aY I<|cu h fun r12 q_r12 h=>jf (EffOK.fr7 (EffOK.fr7 (EffOK.fr7 (EffOK.fr7 (EffOK.fr7 (EffOK.fr7 (EffOK.fr7 (dY (xs:=[.tmp 141,.tmp 142,.tmp 144,.tmp 145]) (ts:=[tV (an b1 0),Z bD t,bf e.R,iD group]) (kw b1 r7.2.2 i3) _ I Qu (ihR b1 i3 r7.2.2 _ _ _ q_r12) ⟨(M I),(M I),(M I),(M I),Q⟩ (fun _=>I))))))))) I fun i4=>?_;refine(show RG _ _ _ _ [_,_,_,_,_,_,_,_,_] ((146,tT [Z ac r12.1,bf r12.2.1])::_)from ?_);refine aY I<|cU I I<|cU I I<|aX bJ cZ I fun b7=>bM bJ aj I<|aQ 20 I<|bh I<|aR<|aY I<|ib I<|bX h I (fun h=>?_) (fun h=>?_)
        ·exact aV<|d (bS bJ BX cZ I)<|aY I<|Js<|bM bJ aj I<|bj I<|af<|af<|cq 8 I<|dl<|aM<|ae<|ae<|ae<|ae<|ae<|ae<|ae<|so h▸dc (ts:=[Z ac th,bf r12.2.1]) (rvs:=[.cell 8 62,.tmp 9]) I I ⟨di bJ I I I,bH I,Q⟩ i4 I I
        ·refine gp<|aL<|aU mf gY cF I<|d (bS (y:=(⟨e.Tag,(0:Int),(0:Int),(0:Int),HV⟩:aD)) eH yQ iN (⟨_,_,_,_,_,I,kR,I,(M I),I⟩))<|cM bJ I<|cM bJ I<|d (ba (r:=ac) (ys:=[r7.1,r12.1]) (xs:=[.tmp 156,.tmp 157]) oQ bJ I I I I I ⟨(M I),(M I),Q⟩)<|eg h Jo (AD _ _) (da I) fun r13 h=>ta<|bM bJ aj I<|br<|dl<|dl<|dl<|dl<|dl<|dl<|dl<|dl<|mu ?_;exact cj (K3 th r13 r12.2.2 (i4.h 0).1 (i4.h 0).2 (i4.h 1).1 (i4.h 1).2 (i4.h 2).1 (i4.h 2).2 (i4.h 3).1 (i4.h 3).2 (i4.h 4).1 (i4.h 4).2 (i4.h 5).1 (i4.h 5).2 h) (a8 I)
       ·refine bl<|dl<|dl<|dl<|dl<|dl<|dl<|dl<|dl<|mu ?_;exact cj (K3 th r8 r7.2.2 (i3.h 0).1 (i3.h 0).2 (i3.h 1).1 (i3.h 1).2 (i3.h 2).1 (i3.h 2).2 (i3.h 3).1 (i3.h 3).2 (i3.h 4).1 (i3.h 4).2 (i3.h 5).1 (i3.h 5).2 h) (a8 I)
def Zc(b1:Nat)(ix:OI) b t place group{R}(h:rR b t place group=some R):ea bd 151 [tV (an b1 0),Z bD t,bf place,iD group] (kw b1 b ix) (fun _:OI=>tT [Z ac R.1,bf R.2.1]) (fun j=>kw b1 R.2.2 j):=TH fc b1 ix b t place group h

end Go.Proofs.YthbdkceckjihgaaGreatDoor

