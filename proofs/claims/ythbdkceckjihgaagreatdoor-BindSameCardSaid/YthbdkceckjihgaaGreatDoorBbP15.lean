/- du of this claim: P15. -/
import Derived.Test.YthbdkceckjihgaaGreatDoorBbT
import Derived.Test.YthbdkceckjihgaaGreatDoorBbP14
set_option linter.all false
namespace Go.Proofs.YthbdkceckjihgaaGreatDoor
open Go
set_option maxRecDepth 100000

def PO tag{R}(h:k9 tag=some R):cI aZ 125 [bd tag] (im R):=by
 exact dm Tryz.func125 I<|aY<|bw<|bO<|aH I<|dw I<|aX I<|au I (da I)<|au I (fun D=>fh (bF I D) hI)<|au I (q7 I)<|ej I I I I (fun D=>gH I)<|ej I I I I (fun D=>kD (bF I D) hI)<|au I (fun D=>jw (bF I D) (fun Y=>(bF I (si D Y))))<|eu I<|be I<|so h▸aq I I

def Ar a1 b{R}(h:lX a1 b=some R):cI aZ 110 [H ac a1,H ac b] (im R):=by
 refine dm Tryz.func110 I<|aY<|cK I<|cK I<|bw<|bO<|aT<|ba j4 gn sv I<|bW mz I<|ba j4 gn sv I<|bW mz I<|Q (dZ (M I) (M I))<|bY h I (fun h=>?_) (fun h=>?_)
 ·exact aY<|bw<|cw<|af<|so h▸aq I I
 ·refine gC<|aT<|ba j4 gn sv I<|bW mz I<|Q (bC hI)<|bO<|ai<|aO (k:=14) I fun hN=>bp ?_;refine ay (dz (h2:=fun ls i=>(a1.Nodes.drop i=ls)/\qm b ls i=some R) (Of:=fun _ i=>[]) (Gf:=fun _ i=>[(2,bt ac a1),(3,bt ac b),(15,iK a1.Nodes),(16,bd (i:Int))]) (fun i h=>?_) (fun e tl ih i h=>?_) a1.Nodes 0 ⟨I,h⟩) (bb I)
  ·obtain⟨A,h⟩:=h
   exact dh A I<|av<|aY<|bw<|cw<|so h▸aq I I
  ·obtain⟨A,h⟩:=h
   refine dg A I<|aD<|ai<|aH I<|bj I<|aD<|cq h fun e1 q_e1 h=>?_
   refine eI (ts:=[_,_,_,_,_,_,_,_,_,_,_]) mixed I I
    ⟨ug 2 I I (oJ j4 gn I I),
    ⟨jX 0 sv I I,
    ⟨f8 I I,
    ⟨fg 20 1 21 2 I I I (Cc mz eJ I I I (df A)),
    ⟨jX 3 eJ I I,
    ⟨ug 3 I I (oJ j4 gn I I),
    ⟨jX 5 sv I I,
    ⟨f8 I I,
    ⟨fg 25 6 26 7 I I I (Cc mz eJ I I I q_e1),
    ⟨jX 8 eJ I I,
    ⟨fg 23 4 28 9 I I I (xT Xh (M I) (M I)),
    d⟩⟩⟩⟩⟩⟩⟩⟩⟩⟩⟩ ?_
   refine av<|mA h I (fun h=>?_) (fun h=>?_)
   ·exact aY<|bw<|cw<|bZ<|af<|bZ<|so h▸aq I I
   ·refine bk<|cR A hN I ?_;exact aS (ay (ih (i+1) ⟨cM A,h⟩) (bb I))

def Y7(b1:Nat)(ix:OI) b a1{R}(h:na b a1=some R):ea aZ 185 [tV (an b1 0),H aN a1] (kE b1 b ix) (fun _:OI=>tT [H ac R.1,bd R.2.1]) (fun j=>kE b1 R.2.2 j):=by
 refine ea.of Tryz.func185 I I I fun w0 S0=>?_;refine(show CG _ _ _ [bx (rH bA (z11 ix b)) 137 b1 b,K bg 48 (ix.h 0).1 (ix.h 0).2 b.sources,K aP 3 (ix.h 1).1 (ix.h 1).2 b.out.Tables,K aw 71 (ix.h 2).1 (ix.h 2).2 b.out.Joins,K aP 3 (ix.h 3).1 (ix.h 3).2 b.out.Keys,K aN 73 (ix.h 4).1 (ix.h 4).2 b.out.Aggs,K ac 62 (ix.h 5).1 (ix.h 5).2 b.out.Items] _ from ?_);refine aY<|cK I<|aV bD cQ I fun b2=>bG<|bO<|aD<|aD<|cq h fun r q_r h=>cq h fun r1 q_r1 h=>?_
 refine eI (ts:=[_,_,_,_,_,_,_,_,_,_,_,_,_,_,_,_,_]) mixed I I
  ⟨ug 3 I I (qN p9 I I),
  ⟨f8 I I,
  ⟨ga 13 1 I I (bl (M I)),
  ⟨ga 14 2 I I (lv 0 wz I I I),
  ⟨ga 15 3 I I (bB (r:=rH bA (z11 ix b)) (x:=b) qa I I (nD mH) (.tail _ (.head _)) (M I)),
  ⟨f8 I I,
  ⟨ga 17 5 I I (bl (M I)),
  ⟨ga 18 6 I I (lv 2 eW I I I),
  ⟨ga 19 7 I I (lv 2 pu I I I),
  ⟨ga 20 8 I I (cP fL I (.tail _ (.head _)) (.tail _ (.tail _ (.tail _ (.head _)))) (M I)),
  ⟨fg 16 4 21 9 I I I (bn RK (Kd _ _ q_r) ⟨(M I),(kB (M I)),d⟩),
  ⟨fg 12 0 22 10 I I I (bn Xm (PG _ _ q_r1) ⟨(M I),(M I),d⟩),
  ⟨ga 23 11 I I (gH I),
  ⟨ga 11 12 I I (vS I I),
  ⟨ga 11 12 I I (vS I I),
  ⟨ga 24 13 I I (AW I),
  ⟨ga 25 14 I I (AW I),
  d⟩⟩⟩⟩⟩⟩⟩⟩⟩⟩⟩⟩⟩⟩⟩⟩⟩ ?_
 refine av<|aH I<|Q (fV (M I))<|bY h I (fun h=>?_) (fun h=>?_)
 ·exact aY<|Q (bU bD BN cQ I)<|bL bD aj I<|dJ<|af<|cn 4 I<|ae<|ae<|ae<|ae<|ae<|ae<|ae<|so h▸c0 (ts:=[H ac tk,bd 201]) (rvs:=[.cell 4 62,.tmp 5]) I I ⟨di bD I I I,bE I,d⟩ ix I I
 ·refine gC<|aH I<|Q (bl (M I))<|bv 2 eW I<|bv 9 mR I<|Q (cP wM I (.tail _ (.head _)) (.tail _ (.tail _ (.tail _ (.tail _ (.tail _ (.tail _ (.head _))))))) (M I))<|Q (fN sE (kB (M I)))<|bj I<|aT<|aX I<|Q (bl (M I))<|bv 2 eW I<|bv 9 mR I<|Q (cP wM I (.tail _ (.head _)) (.tail _ (.tail _ (.tail _ (.tail _ (.tail _ (.tail _ (.head _))))))) (M I))<|Q (fN sE (kB (M I)))<|Q (bC hI)<|bz ?_;refine av<|ai<|Ev<|vk 39 I<|aO (k:=39) I fun hN=>bp<|rl<|ie<|rl<|rl<|rl<|rl<|rl<|rl ?_;refine ay (j8 (h2:=fun ls i at1=>(b.out.Aggs.drop i=ls)/\fy b a1 ls i at1=some R) (Of:=fun _ i at1=>[bx ac 62 b2 tk,bx (rH bA (z11 ix b)) 137 b1 b,K bg 48 (ix.h 0).1 (ix.h 0).2 b.sources,K aP 3 (ix.h 1).1 (ix.h 1).2 b.out.Tables,K aw 71 (ix.h 2).1 (ix.h 2).2 b.out.Joins,K aP 3 (ix.h 3).1 (ix.h 3).2 b.out.Keys,K aN 73 (ix.h 4).1 (ix.h 4).2 b.out.Aggs,K ac 62 (ix.h 5).1 (ix.h 5).2 b.out.Items]) (Gf:=fun _ i at1=>[(0,tV (an b1 0)),(3,bt aN a1),(4,tV (an b2 0)),(8,bd at1),(39,fm (aN) b.out.Aggs),(40,iK b.out.Aggs),(41,bd (i:Int))]) (fun i at1 h=>?_) (fun e tl ih i at1 h=>?_) b.out.Aggs 0 (b.out.Aggs.length:Int) ⟨I,h⟩) (bb I)
  ·obtain⟨A,h⟩:=h
   refine dh A I<|av ?_;refine yB (h2:=fun ob l c l1 c1 l2 c2 l3 c3 l4 c4 l5 c5=>li at1 ob=some R) (Of:=fun ob l c l1 c1 l2 c2 l3 c3 l4 c4 l5 c5=>[bx ac 62 b2 tk,bx (rH bA [(1,J l c ob.sources.length),(2,J l1 c1 ob.out.Tables.length),(3,J l2 c2 ob.out.Joins.length),(8,J l3 c3 ob.out.Keys.length),(9,J l4 c4 ob.out.Aggs.length),(10,J l5 c5 ob.out.Items.length)]) 137 b1 ob,K bg 48 l c ob.sources,K aP 3 l1 c1 ob.out.Tables,K aw 71 l2 c2 ob.out.Joins,K aP 3 l3 c3 ob.out.Keys,K aN 73 l4 c4 ob.out.Aggs,K ac 62 l5 c5 ob.out.Items]) (Gf:=fun ob l c l1 c1 l2 c2 l3 c3 l4 c4 l5 c5=>[(0,tV (an b1 0)),(4,tV (an b2 0)),(8,bd at1)]) (fun ob l c l1 c1 l2 c2 l3 c3 l4 c4 l5 c5 h=>?_) (fun ax=>?_)
   ·skip
    refine aT<|aX I<|Q (bl (M I))<|bv 2 eW I<|bv 9 mR I<|Q (cP wM I (.tail _ (.head _)) (.tail _ (.tail _ (.tail _ (.tail _ (.tail _ (.tail _ (.head _))))))) (M I))<|Q (fN sE (kB (M I)))<|Q (fa (M I) hI)<|bY h I (fun h=>?_) (fun h=>?_)
    ·exact aY<|Q (bU bD BN cQ I)<|bL bD aj I<|dJ<|af<|cn 4 I<|ae<|ae<|ae<|ae<|ae<|ae<|ae<|so h▸c0 (ts:=[H ac tk,bd 228]) (rvs:=[.cell 4 62,.tmp 5]) I I ⟨di bD I I I,bE I,d⟩ (FE [(l,c),(l1,c1),(l2,c2),(l3,c3),(l4,c4),(l5,c5)]) I I
    ·refine gC<|aH I<|Q (bl (M I))<|bv 2 eW I<|bv 8 rW I<|Q (cP fL I (.tail _ (.head _)) (.tail _ (.tail _ (.tail _ (.tail _ (.tail _ (.head _)))))) (M I))<|Q (fN fH (kB (M I)))<|aX I<|Q (fX (M I) (M I))<|Q (bU (y:=(⟨(2:Int),(0:Int),(0:Int),(IntKind.i64.wrap ((ob.out.Keys.length:Int)+at1)),HS⟩:aC)) eJ yK iS (⟨_,_,_,_,_,I,kY,I,hI,⟨_,_,_,_,_,I,sL,I,(M I),I⟩⟩))<|eo h Jh (At _ _) ⟨(M I),Rn,d⟩ fun r2 h=>bL bD aj I<|dJ<|cn 4 I<|ae<|ae<|ae ?_;exact ae<|ae<|ae<|ae<|so h▸c0 (ts:=[H ac r2,bd 0]) (rvs:=[.cell 4 62,.tmp 5]) I I ⟨di bD I I I,bE I,d⟩ (FE [(l,c),(l1,c1),(l2,c2),(l3,c3),(l4,c4),(l5,c5)]) I I
   ·skip
    refine aH I<|aX I<|Q (bl (M I))<|bv 2 eW I<|bv 9 mR I<|Q (cP wM I (.tail _ (.head _)) (.tail _ (.tail _ (.tail _ (.tail _ (.tail _ (.tail _ (.head _))))))) (M I))<|Q (fN sE (kB (M I)))<|Q (mg (M I) (M I))<|bY h I (fun h=>?_) (fun h=>?_)
    ·refine cq h fun l6 q_l6 h=>?_
     refine ek 9 [tc (tV (an b1 0)),tc (tV (an b1 0)),tc (tV (an b1 0)),tc (tV (an b1 2)),tc (tV (an b1 9)),tc (tO aN (ix.h 4).1 (ix.h 4).2 b.out.Aggs),tc (H aN a1),tc (fm (aN) ([a1])),([8],fun s=>tO aN ((s.getD 0 oF).h 0).1 ((s.getD 0 oF).h 0).2 l6)] [false,false,false,false,false,false,false,false,true] [fun _=>[bx ac 62 b2 tk,bx (rH bA (z11 ix b)) 137 b1 b,K bg 48 (ix.h 0).1 (ix.h 0).2 b.sources,K aP 3 (ix.h 1).1 (ix.h 1).2 b.out.Tables,K aw 71 (ix.h 2).1 (ix.h 2).2 b.out.Joins,K aP 3 (ix.h 3).1 (ix.h 3).2 b.out.Keys,K aN 73 (ix.h 4).1 (ix.h 4).2 b.out.Aggs,K ac 62 (ix.h 5).1 (ix.h 5).2 b.out.Items],fun sg=>[K aN 73 ((sg 8).h 0).1 ((sg 8).h 0).2 l6,bx ac 62 b2 tk,bx (rH bA (z11 ix b)) 137 b1 b,K bg 48 (ix.h 0).1 (ix.h 0).2 b.sources,K aP 3 (ix.h 1).1 (ix.h 1).2 b.out.Tables,K aw 71 (ix.h 2).1 (ix.h 2).2 b.out.Joins,K aP 3 (ix.h 3).1 (ix.h 3).2 b.out.Keys,K ac 62 (ix.h 5).1 (ix.h 5).2 b.out.Items]] I mixed I I I I I
      ⟨⟨[⟨0,fun _=>tV (an b1 0),none⟩],_,0,1,I,⟨(fun _=>I),d⟩,I,I,I,I,I,fun _ sg _ _=>aa I (gH I)⟩,
      ⟨⟨[⟨0,fun _=>tV (an b1 0),none⟩],_,0,0,I,⟨(fun _=>I),d⟩,I,I,I,I,I,fun _ sg _ _=>aa I (gH I)⟩,
      ⟨⟨[⟨69,fun _=>tV (an b1 0),some 1⟩],_,0,0,I,⟨(fun _=>I),d⟩,I,I,I,I,I,fun _ sg _ _=>aa I (bl (M I))⟩,
      ⟨⟨[⟨70,fun _=>tV (an b1 0),some 2⟩],_,0,0,I,⟨(fun _=>I),d⟩,I,I,I,I,I,fun _ sg _ _=>aa I (lv 2 eW I I I)⟩,
      ⟨⟨[⟨71,fun _=>tV (an b1 2),some 3⟩],_,0,0,I,⟨(fun _=>I),d⟩,I,I,I,I,I,fun _ sg _ _=>aa I (lv 9 mR I I I)⟩,
      ⟨⟨[⟨72,fun _=>tV (an b1 9),some 4⟩],_,0,0,I,⟨(fun _=>I),d⟩,I,I,I,I,I,fK (fun sg=>aa I (cP wM I (.tail _ (.head _)) (.tail _ (.tail _ (.tail _ (.tail _ (.tail _ (.tail _ (.head _))))))) (M I)))⟩,
      ⟨⟨[⟨3,fun _=>bt aN a1,none⟩],_,0,0,I,⟨(fun _=>I),d⟩,I,I,I,I,I,fun _ sg _ _=>aa I (qN p9 I I)⟩,
      ⟨⟨[⟨74,fun _=>H aN a1,some 6⟩],_,0,0,I,⟨(fun _=>I),d⟩,I,I,I,I,I,fun _ sg _ _=>aa I (a8 (r:=aN) (ys:=[a1]) (xs:=[.tmp 74]) sE p9 I I I I I ⟨(M I),d⟩)⟩,
      ⟨⟨[⟨73,fun _=>tO aN (ix.h 4).1 (ix.h 4).2 b.out.Aggs,some 5⟩,⟨75,fun _=>H (eO aN) ([a1]),some 7⟩],_,I,⟨(fun _=>I),(fun _=>I),d⟩,I,I,I,fun sg=>bS I (EffOK.fr6 (iw p9 I I I I sE I (M I) (M I) q_l6))⟩,
      d⟩⟩⟩⟩⟩⟩⟩⟩⟩ (fun sg=>?_)
     refine(show RG _ _ _ _ [_,_,_,_,_,_,_,_] _ from ?_);refine Q (bl (M I))<|bv 2 eW I<|bv 9 mR I<|fA (EffOK.fr2 (ip (hs' :=[(1,J (ix.h 0).1 (ix.h 0).2 b.sources.length),(2,J (ix.h 1).1 (ix.h 1).2 b.out.Tables.length),(3,J (ix.h 2).1 (ix.h 2).2 b.out.Joins.length),(8,J (ix.h 3).1 (ix.h 3).2 b.out.Keys.length),(9,J ((sg 8).h 0).1 ((sg 8).h 0).2 l6.length),(10,J (ix.h 5).1 (ix.h 5).2 b.out.Items.length)]) (u:=J ((sg 8).h 0).1 ((sg 8).h 0).2 l6.length) wM I I (gm fO lC Cz) I ⟨.inr ⟨I,I⟩,.inr ⟨I,I⟩,.inr ⟨I,I⟩,.inr ⟨I,I⟩,.inl ⟨I,I,I⟩,.inr ⟨I,I⟩,d⟩ (M I) (kB (M I)) (tQ (M I)))) fun i1=>?_;refine(show RG _ _ _ _ [_,_,_,_,_,_,_,_] _ from ?_);refine bz<|dp<|gu<|dp<|dp<|dp<|dp<|ae<|dp ?_;exact cm (ax ({b with out:=({b.out with Aggs:=l6}:aL)}:aA) (ix.h 0).1 (ix.h 0).2 (ix.h 1).1 (ix.h 1).2 (ix.h 2).1 (ix.h 2).2 (ix.h 3).1 (ix.h 3).2 ((sg 8).h 0).1 ((sg 8).h 0).2 (ix.h 5).1 (ix.h 5).2 h) (bb I)
    ·refine bk ?_;exact cm (ax b (ix.h 0).1 (ix.h 0).2 (ix.h 1).1 (ix.h 1).2 (ix.h 2).1 (ix.h 2).2 (ix.h 3).1 (ix.h 3).2 (ix.h 4).1 (ix.h 4).2 (ix.h 5).1 (ix.h 5).2 h) (bb I)
  ·obtain⟨A,h⟩:=h
   refine dg A I<|aD<|ai<|aH I<|dE sE p9 I (df A)<|aV p9 Br I fun b3=>gE I<|bL p9 aj I<|aK 10 I<|bO<|aD ?_;refine aJ<|ba qd ll cF I<|ba qd ll cF I<|Q (mg (M I) (M I))<|aX I<|cq h fun t q_t h=>ap I (bR vG qy I I)<|ap I (bM bD I I)<|ap I (bR vG qy I I)<|ap I (bM bD I I) ?_
   obtain⟨r3,h1t,h0t⟩:=og q_t
   have q_r3g:=fun Y=>(h1t Y).1
   refine ap I (fun D=>bn Jg (Ar _ _ (q_r3g D)) ⟨(bF I D),(bF I D),d⟩)<|Q (bJ (M I) (fun Y=>(bF I Y)) (fun Y=>(h1t Y).2) h0t)<|bY h I (fun h=>?_) (fun h=>?_)
   ·refine aJ<|aX I<|gE I<|bz<|cR A hN I ?_;exact aS (ay (ih (i+1) (i:Int) ⟨cM A,h⟩) (bb I))
   ·refine bk<|cR A hN I ?_;exact aS (ay (ih (i+1) at1 ⟨cM A,h⟩) (bb I))

def VS tag{R}(h:uR tag=some R):cI aZ 186 [bd tag] (bd R):=by
 refine dm Tryz.func186 I<|aY<|bG<|bO<|aT<|aX I<|bO<|ai<|aY<|dw I<|bj I<|mA h I (fun h=>?_) (fun h=>?_)
 ·exact aY<|dJ<|bZ<|so h▸aq I I
 ·refine aY<|dw I<|bj I<|mA h I (fun h=>?_) (fun h=>?_)
  ·exact aY<|dJ<|bZ<|so h▸aq I I
  ·refine aY<|dw I<|bj I<|mA h I (fun h=>?_) (fun h=>?_)
   ·exact aY<|dJ<|bZ<|so h▸aq I I
   ·refine aY<|dw I<|bj I<|mA h I (fun h=>?_) (fun h=>?_)
    ·exact aY<|dJ<|bZ<|so h▸aq I I
    ·exact bk<|bq<|av<|aY<|dJ<|so h▸aq I I

def Tx: ∀(fu:Nat) (b1:Nat) (ix:OI) (b:aA) (t:dj) (place:Int) (group:Bool) {R:aW×Int×aA} (h:cB fu b t place group=some R),ea aZ 151 [tV (an b1 0),H bI t,bd place,im group] (kE b1 b ix) (fun _:OI=>tT [H ac R.1,bd R.2.1]) (fun j=>kE b1 R.2.2 j):=by
 intro fu
 induction fu with
 |zero=>intro b1 ix b t place group R h;exact(nn h).elim
 |succ fu ihR=>
  intro b1 ix b t place group R h
  refine ea.of Tryz.func151 I I I fun w0 S0=>?_;refine(show CG _ _ _ [bx (rH bA (z11 ix b)) 137 b1 b,K bg 48 (ix.h 0).1 (ix.h 0).2 b.sources,K aP 3 (ix.h 1).1 (ix.h 1).2 b.out.Tables,K aw 71 (ix.h 2).1 (ix.h 2).2 b.out.Joins,K aP 3 (ix.h 3).1 (ix.h 3).2 b.out.Keys,K aN 73 (ix.h 4).1 (ix.h 4).2 b.out.Aggs,K ac 62 (ix.h 5).1 (ix.h 5).2 b.out.Items] _ from ?_);refine aY<|cK I<|aV bD cQ I fun b2=>bG<|bO<|aY<|ba j5 eN sw I<|aX I<|cq h fun e q_e h=>dE oZ lS I q_e<|aV lS vY I fun b3=>bL lS aj I<|aK 10 I<|bO<|aD<|ai<|aY ?_;refine ba mh iA cF I<|dw I<|bj I<|mA h I (fun h=>?_) (fun h=>?_)
  ·exact aY<|ba qG mq lB I<|Q (bU (y:=(⟨(1:Int),(0:Int),(0:Int),(0:Int),e.Value⟩:aC)) eJ yK iS (⟨_,_,_,_,_,I,kY,I,hI,⟨_,_,_,_,_,I,Gt,I,(M I),I⟩⟩))<|eo h Jh (At _ _) ⟨(M I),Rn,d⟩ fun r h=>bL bD aj I<|dJ<|bZ<|cn 8 I<|ae<|ae<|ae<|ae<|ae<|ae<|ae<|so h▸c0 (ts:=[H ac r,bd 0]) (rvs:=[.cell 8 62,.tmp 9]) I I ⟨di bD I I I,bE I,d⟩ ix I I
  ·refine aY<|ba mh iA cF I<|dw I<|bj I<|mA h I (fun h=>?_) (fun h=>?_)
   ·refine aH I<|ba tz pT jG I<|ba qF nj jG I<|cq h fun r1 q_r1 h=>jl (EffOK.fr7 (EffOK.fr7 (EffOK.fr7 (EffOK.fr7 (EffOK.fr7 (EffOK.fr7 (EffOK.fr7 (d7 (xs:=[.tmp 41,.tmp 43,.tmp 45]) (ts:=[tV (an b1 0),H rS e.Table,H rS e.Name]) (kE b1 b ix) _ I Xz (TE b1 ix b _ _ q_r1) ⟨(M I),(M I),(M I),d⟩ (fun _=>I))))))))) I fun i=>?_;refine(show RG _ _ _ _ [_,_,_,_,_,_,_,_] ((46,tT [bd r1.1,bd r1.2])::_)from ?_);refine aX I<|cY I I<|cY I I<|gE I<|bj I ?_;refine xD (h2:=fun at1 x=>gP b r1 at1 x=some R) (Of:=fun at1 x=>[bx ac 62 b2 x,bx (rH bA (z11 ix b)) 137 b1 b,K bg 48 (ix.h 0).1 (ix.h 0).2 b.sources,K aP 3 (ix.h 1).1 (ix.h 1).2 b.out.Tables,K aw 71 (ix.h 2).1 (ix.h 2).2 b.out.Joins,K aP 3 (ix.h 3).1 (ix.h 3).2 b.out.Keys,K aN 73 (ix.h 4).1 (ix.h 4).2 b.out.Aggs,K ac 62 (ix.h 5).1 (ix.h 5).2 b.out.Items]) (Gf:=fun at1 x=>[(8,tV (an b2 0)),(11,bd at1),(12,bd r1.2)]) (fun at1 x h=>?_) (fun ax=>?_)
    ·skip
     exact aH I<|Q (bU (y:=(⟨(2:Int),(0:Int),(0:Int),at1,HS⟩:aC)) eJ yK iS (⟨_,_,_,_,_,I,kY,I,hI,⟨_,_,_,_,_,I,sL,I,(M I),I⟩⟩))<|eo h Jh (At _ _) ⟨(M I),Rn,d⟩ fun r2 h=>aX I<|bL bD aj I<|be I<|bZ<|cn 8 I<|ae<|ae<|ae<|ae<|ae<|ae<|ae<|so h▸c0 (ts:=[H ac r2,bd r1.2]) (rvs:=[.cell 8 62,.tmp 9]) I I ⟨di bD I I I,bE I,d⟩ ix I I
    ·skip
     refine aH I<|dw I<|aX I<|ap I (da I)<|eV I<|bY h I (fun h=>?_) (fun h=>?_)
     ·refine aY<|bG<|bO<|aT<|aX I<|Q (bl (M I))<|bv 2 eW I<|bv 8 rW I<|Q (cP fL I (.head _) (.tail _ (.tail _ (.tail _ (.tail _ (.head _))))) (M I))<|Q (fN fH (kB (M I)))<|Q (fv (M I) hI)<|bj I<|ai<|bp<|ic<|ic<|ic<|ic ?_;refine ic<|ic<|ic<|rl ?_;refine ay (Qn (h2:=fun n own i1=>dP b r1 n own i1=some R) (Of:=fun own i1=>[bx ac 62 b2 tk,bx (rH bA (z11 ix b)) 137 b1 b,K bg 48 (ix.h 0).1 (ix.h 0).2 b.sources,K aP 3 (ix.h 1).1 (ix.h 1).2 b.out.Tables,K aw 71 (ix.h 2).1 (ix.h 2).2 b.out.Joins,K aP 3 (ix.h 3).1 (ix.h 3).2 b.out.Keys,K aN 73 (ix.h 4).1 (ix.h 4).2 b.out.Aggs,K ac 62 (ix.h 5).1 (ix.h 5).2 b.out.Items]) (Gf:=fun own i1=>[(0,tV (an b1 0)),(8,tV (an b2 0)),(11,bd r1.1),(12,bd r1.2),(13,bd own),(14,bd i1)]) (fun own i1 h=>nn h) (fun n ih1 own i1 h=>?_) gi mi (IntKind.i64.wrap ((b.out.Keys.length:Int)-(1:Int))) h) (bb I);refine dX<|aT<|aX I<|Q (fh (M I) hI)<|bY h I (fun h=>?_) (fun h=>?_)
      ·refine gC<|aD<|ai<|aH I<|Q (bl (M I))<|bv 2 eW I<|bv 8 rW I<|Q (cP fL I (.tail _ (.head _)) (.tail _ (.tail _ (.tail _ (.tail _ (.tail _ (.head _)))))) (M I))<|aX I<|cq h fun e1 q_e1 h=>Q (ev fH cF I (kB (M I)) (M I) q_e1)<|cC cF I<|aX I<|Q (mg (M I) (M I))<|bY h I (fun h=>?_) (fun h=>?_)
       ·refine aJ<|aX I<|gE I<|bz<|bq<|av<|aJ<|aX I<|Q (fv (M I) hI)<|gE I<|bz ?_;exact aS (ay (ih1 i1 (IntKind.i64.wrap (i1-(1:Int))) h) (bb I))
       ·refine bk<|bq<|av<|aJ<|aX I<|Q (fv (M I) hI)<|gE I<|bz ?_;exact aS (ay (ih1 own (IntKind.i64.wrap (i1-(1:Int))) h) (bb I))
      ·refine eY<|aI<|aI<|cW<|av<|aH I<|bj I<|aH I<|Q (eP (M I) hI)<|bY h I (fun h=>?_) (fun h=>?_)
       ·exact aY<|Q (bU bD BN cQ I)<|bL bD aj I<|dJ<|af<|bZ<|cn 8 I<|ae<|ae<|ae<|ae<|ae<|ae<|ae<|so h▸c0 (ts:=[H ac tk,bd 225]) (rvs:=[.cell 8 62,.tmp 9]) I I ⟨di bD I I I,bE I,d⟩ ix I I
       ·refine bk ?_;exact cm (ax own tk h) (bb I)
     ·refine bk<|ae<|ae<|ae<|ae<|ae<|ae<|ae<|dp ?_;exact cm (ax r1.1 tk h) (bb I)
   ·refine aY<|ba mh iA cF I<|eo h Xw (PO _) (dd I) fun r3 h=>bj I<|mA h I (fun h=>?_) (fun h=>?_)
    ·refine aY<|aV bD cQ I fun b4=>bO<|aY<|bG<|bO ?_;refine Cb (h2:=fun e2 arg ob l c l1 c1 l2 c2 l3 c3 l4 c4 l5 c5=>iY group e e2 arg ob=some R) (Of:=fun e2 arg ob l c l1 c1 l2 c2 l3 c3 l4 c4 l5 c5=>[bx ac 62 b2 tk,bx ac 62 b4 arg,bx (rH bA [(1,J l c ob.sources.length),(2,J l1 c1 ob.out.Tables.length),(3,J l2 c2 ob.out.Joins.length),(8,J l3 c3 ob.out.Keys.length),(9,J l4 c4 ob.out.Aggs.length),(10,J l5 c5 ob.out.Items.length)]) 137 b1 ob,K bg 48 l c ob.sources,K aP 3 l1 c1 ob.out.Tables,K aw 71 l2 c2 ob.out.Joins,K aP 3 l3 c3 ob.out.Keys,K aN 73 l4 c4 ob.out.Aggs,K ac 62 l5 c5 ob.out.Items]) (Gf:=fun e2 arg ob l c l1 c1 l2 c2 l3 c3 l4 c4 l5 c5=>[(0,tV (an b1 0)),(3,im group),(8,tV (an b2 0)),(10,bt dk e),(15,tV (an b4 0)),(16,bd e2)]) (fun e2 arg ob l c l1 c1 l2 c2 l3 c3 l4 c4 l5 c5 h=>?_) (fun K1=>?_)
     ·skip
      refine ig (h2:=fun e3=>gO e arg ob e3=some R) (Of:=fun e3=>[bx ac 62 b2 tk,bx ac 62 b4 arg,bx (rH bA [(1,J l c ob.sources.length),(2,J l1 c1 ob.out.Tables.length),(3,J l2 c2 ob.out.Joins.length),(8,J l3 c3 ob.out.Keys.length),(9,J l4 c4 ob.out.Aggs.length),(10,J l5 c5 ob.out.Items.length)]) 137 b1 ob,K bg 48 l c ob.sources,K aP 3 l1 c1 ob.out.Tables,K aw 71 l2 c2 ob.out.Joins,K aP 3 l3 c3 ob.out.Keys,K aN 73 l4 c4 ob.out.Aggs,K ac 62 l5 c5 ob.out.Items]) (Gf:=fun e3=>[(0,tV (an b1 0)),(8,tV (an b2 0)),(10,bt dk e),(15,tV (an b4 0)),(16,bd e3)]) (fun e3 h=>?_) (fun K2=>?_)
      ·skip
       refine aT<|aX I<|gW I<|bY h I (fun h=>?_) (fun h=>?_)
       ·exact aY<|Q (bU bD BN cQ I)<|aX I<|bL bD aj I<|be I<|af<|bZ<|cn 8 I<|aM<|ae<|ae<|ae<|ae<|ae<|ae<|ae<|so h▸c0 (ts:=[H ac tk,bd e3]) (rvs:=[.cell 8 62,.tmp 9]) I I ⟨di bD I I I,bE I,d⟩ (FE [(l,c),(l1,c1),(l2,c2),(l3,c3),(l4,c4),(l5,c5)]) I I
       ·refine gC<|aD<|cq h fun r4 q_r4 h=>cq h fun r5 q_r5 h=>?_
        refine ek 9 [tc (tV (an b1 0)),tc (bt aP e.Tag),tc (bd e.Tag),tc (bd r4),tc (H ac arg),tc (H aN (⟨r4,arg⟩:f9)),tc (tT [H ac r5.1,bd r5.2.1]),tc (H ac r5.1),tc (bd r5.2.1)] [false,false,false,false,false,false,true,false,false] [fun _=>[bx ac 62 b2 tk,bx ac 62 b4 arg,bx (rH bA [(1,J l c ob.sources.length),(2,J l1 c1 ob.out.Tables.length),(3,J l2 c2 ob.out.Joins.length),(8,J l3 c3 ob.out.Keys.length),(9,J l4 c4 ob.out.Aggs.length),(10,J l5 c5 ob.out.Items.length)]) 137 b1 ob,K bg 48 l c ob.sources,K aP 3 l1 c1 ob.out.Tables,K aw 71 l2 c2 ob.out.Joins,K aP 3 l3 c3 ob.out.Keys,K aN 73 l4 c4 ob.out.Aggs,K ac 62 l5 c5 ob.out.Items],fun sg=>[bx (rH bA [(1,J ((sg 6).h 0).1 ((sg 6).h 0).2 r5.2.2.sources.length),(2,J ((sg 6).h 1).1 ((sg 6).h 1).2 r5.2.2.out.Tables.length),(3,J ((sg 6).h 2).1 ((sg 6).h 2).2 r5.2.2.out.Joins.length),(8,J ((sg 6).h 3).1 ((sg 6).h 3).2 r5.2.2.out.Keys.length),(9,J ((sg 6).h 4).1 ((sg 6).h 4).2 r5.2.2.out.Aggs.length),(10,J ((sg 6).h 5).1 ((sg 6).h 5).2 r5.2.2.out.Items.length)]) 137 b1 r5.2.2,K bg 48 ((sg 6).h 0).1 ((sg 6).h 0).2 r5.2.2.sources,K aP 3 ((sg 6).h 1).1 ((sg 6).h 1).2 r5.2.2.out.Tables,K aw 71 ((sg 6).h 2).1 ((sg 6).h 2).2 r5.2.2.out.Joins,K aP 3 ((sg 6).h 3).1 ((sg 6).h 3).2 r5.2.2.out.Keys,K aN 73 ((sg 6).h 4).1 ((sg 6).h 4).2 r5.2.2.out.Aggs,K ac 62 ((sg 6).h 5).1 ((sg 6).h 5).2 r5.2.2.out.Items,bx ac 62 b2 tk,bx ac 62 b4 arg]] I mixed I I I I I
         ⟨⟨[⟨0,fun _=>tV (an b1 0),none⟩],_,0,0,I,⟨(fun _=>I),d⟩,I,I,I,I,I,fun _ sg _ _=>aa I (gH I)⟩,
         ⟨⟨[⟨10,fun _=>bt dk e,none⟩],_,0,0,I,⟨(fun _=>I),d⟩,I,I,I,I,I,fun _ sg _ _=>aa I (oJ mh iA I I)⟩,
         ⟨⟨[⟨110,fun _=>bt aP e.Tag,some 1⟩],_,0,0,I,⟨(fun _=>I),d⟩,I,I,I,I,I,fun _ sg _ _=>aa I (qN cF I I)⟩,
         ⟨⟨[⟨111,fun _=>H aP e.Tag,some 2⟩],_,0,0,I,⟨(fun _=>I),d⟩,I,I,I,I,I,fun _ sg _ _=>aa I (bn aa3 (VS _ q_r4) ⟨(M I),d⟩)⟩,
         ⟨⟨[⟨15,fun _=>tV (an b4 0),none⟩],_,0,0,I,⟨(fun _=>I),d⟩,I,I,I,I,I,fK (fun sg=>aa I (bB bD I I cD (.tail _ (.head _)) (M I)))⟩,
         ⟨⟨[⟨112,fun _=>H aP r4,some 3⟩,⟨113,fun _=>H ac arg,some 4⟩],_,0,0,I,⟨(fun _=>I),(fun _=>I),d⟩,I,I,I,I,I,fun _ sg _ _=>aa I (bU (y:=(⟨r4,arg⟩:f9)) p9 Z8 Br (⟨_,_,_,_,_,I,Le,I,(M I),⟨_,_,_,_,_,I,Ld,I,(M I),I⟩⟩))⟩,
         ⟨⟨[⟨109,fun _=>tV (an b1 0),some 0⟩,⟨114,fun _=>H aN (⟨r4,arg⟩:f9),some 5⟩],_,I,⟨(fun _=>I),(fun _=>I),d⟩,I,I,I,fun sg=>bS I (EffOK.fr8 (EffOK.fr8 (EffOK.fr8 (EffOK.fr8 (EffOK.fr8 (EffOK.fr8 (EffOK.fr8 (d7 (xs:=[.tmp 109,.tmp 114]) (ts:=[tV (an b1 0),H aN (⟨r4,arg⟩:f9)]) (kE b1 ob (FE [(l,c),(l1,c1),(l2,c2),(l3,c3),(l4,c4),(l5,c5)])) _ I aa4 (Y7 b1 (FE [(l,c),(l1,c1),(l2,c2),(l3,c3),(l4,c4),(l5,c5)]) ob _ q_r5) ⟨(M I),(M I),d⟩ (fun _=>I)))))))))⟩,
         ⟨⟨[⟨115,fun _=>tT [H ac r5.1,H aP r5.2.1],some 6⟩],_,1,1,I,⟨(fun _=>I),d⟩,I,I,I,I,I,fun _ sg _ _=>aa I (vS I I)⟩,
         ⟨⟨[⟨115,fun _=>tT [H ac r5.1,H aP r5.2.1],some 6⟩],_,1,1,I,⟨(fun _=>I),d⟩,I,I,I,I,I,fun _ sg _ _=>aa I (vS I I)⟩,
         d⟩⟩⟩⟩⟩⟩⟩⟩⟩ (fun sg=>?_)
        refine(show RG _ _ _ _ [_,_,_,_,_,_,_,_,_] _ from ?_);exact ta<|bL bD aj I<|be I<|bZ<|cn 8 I<|dp<|aM<|ae<|ae<|ae<|ae<|ae<|ae<|ae<|so h▸c0 (ts:=[H ac r5.1,bd r5.2.1]) (rvs:=[.cell 8 62,.tmp 9]) I I ⟨di bD I I I,bE I,d⟩ (sg 6) I I
      ·skip
       refine aH I<|dw I<|aX I<|ap I (da I)<|ap I (sy I)<|eV I<|bY h I (fun h=>?_) (fun h=>?_)
       ·refine aJ<|bG<|bz ?_;exact cm (K2 (224:Int) h) (bb I)
       ·refine bk ?_;exact cm (K2 e2 h) (bb I)
     ·skip
      refine aY<|ba wy ri cF I<|Q (fh (M I) hI)<|bY h I (fun h=>?_) (fun h=>?_)
      ·refine aJ<|aX I<|cC jY I<|ba wy ri cF I<|cq h fun r6 q_r6 h=>jl (EffOK.fr8 (EffOK.fr8 (EffOK.fr8 (EffOK.fr8 (EffOK.fr8 (EffOK.fr8 (EffOK.fr8 (d7 (xs:=[.tmp 92,.tmp 93,.tmp 95,.const (.bool false)]) (ts:=[tV (an b1 0),H bI t,bd e.L,im false]) (kE b1 b ix) _ I PZ (ihR b1 ix b _ _ _ q_r6) ⟨(M I),(M I),(M I),hB,d⟩ (fun _=>I))))))))) I fun i2=>?_;refine(show RG _ _ _ _ [_,_,_,_,_,_,_,_,_] ((96,tT [H ac r6.1,bd r6.2.1])::_)from ?_);refine aX I<|cY I I<|cY I I<|ta<|bL bD aj I<|gE I<|bz<|dp<|dp<|dp<|dp<|dp<|dp<|dp<|dp<|my ?_;exact cm (K1 r6.2.1 r6.1 r6.2.2 (i2.h 0).1 (i2.h 0).2 (i2.h 1).1 (i2.h 1).2 (i2.h 2).1 (i2.h 2).2 (i2.h 3).1 (i2.h 3).2 (i2.h 4).1 (i2.h 4).2 (i2.h 5).1 (i2.h 5).2 h) (bb I)
      ·refine bk<|my<|my<|my<|my<|my<|my<|my<|dp<|my ?_;exact cm (K1 (0:Int) tk b (ix.h 0).1 (ix.h 0).2 (ix.h 1).1 (ix.h 1).2 (ix.h 2).1 (ix.h 2).2 (ix.h 3).1 (ix.h 3).2 (ix.h 4).1 (ix.h 4).2 (ix.h 5).1 (ix.h 5).2 h) (bb I)
    ·refine bk<|bq<|av<|aH I<|cC jY I<|ba wy ri cF I<|aX I<|cq h fun r7 q_r7 h=>jl (EffOK.fr7 (EffOK.fr7 (EffOK.fr7 (EffOK.fr7 (EffOK.fr7 (EffOK.fr7 (EffOK.fr7 (d7 (xs:=[.tmp 119,.tmp 120,.tmp 122,.tmp 123]) (ts:=[tV (an b1 0),H bI t,bd e.L,im group]) (kE b1 b ix) _ I PZ (ihR b1 ix b _ _ _ q_r7) ⟨(M I),(M I),(M I),(M I),d⟩ (fun _=>I))))))))) I fun i3=>?_;refine(show RG _ _ _ _ [_,_,_,_,_,_,_,_] ((124,tT [H ac r7.1,bd r7.2.1])::_)from ?_);refine aX I<|cY I I<|cY I I<|aV bD cQ I fun b5=>bL bD aj I<|aK 17 I<|bj I<|aT<|aX I<|gW I<|bY h I (fun h=>?_) (fun h=>?_)
     ·exact aY<|Q (bU bD BN cQ I)<|aX I<|ta<|bL bD aj I<|be I<|af<|cn 8 I<|ae<|ae<|ae<|ae<|ae<|ae<|ae<|so h▸c0 (ts:=[H ac tk,bd r7.2.1]) (rvs:=[.cell 8 62,.tmp 9]) I I ⟨di bD I I I,bE I,d⟩ i3 I I
     ·refine gC<|aY<|ba mh iA cF I<|Q (bU (y:=(⟨e.Tag,(0:Int),(0:Int),(0:Int),HS⟩:aC)) eJ yK iS (⟨_,_,_,_,_,I,kY,I,(M I),I⟩))<|cC bD I<|Q (a8 (r:=ac) (ys:=[r7.1]) (xs:=[.tmp 134]) mX bD I I I I I ⟨(M I),d⟩)<|eo h Jh (At _ _) (dd I) fun r8 h=>aV bD cQ I fun b6=>bL bD aj I<|bO ?_;refine Cb (h2:=fun x1 out ob1 l6 c6 l7 c7 l8 c8 l9 c9 l10 c10 l11 c11=>iX group x1 out ob1=some R) (Of:=fun x1 out ob1 l6 c6 l7 c7 l8 c8 l9 c9 l10 c10 l11 c11=>[bx ac 62 b2 x1,bx ac 62 b6 out,bx (rH bA [(1,J l6 c6 ob1.sources.length),(2,J l7 c7 ob1.out.Tables.length),(3,J l8 c8 ob1.out.Joins.length),(8,J l9 c9 ob1.out.Keys.length),(9,J l10 c10 ob1.out.Aggs.length),(10,J l11 c11 ob1.out.Items.length)]) 137 b1 ob1,K bg 48 l6 c6 ob1.sources,K aP 3 l7 c7 ob1.out.Tables,K aw 71 l8 c8 ob1.out.Joins,K aP 3 l9 c9 ob1.out.Keys,K aN 73 l10 c10 ob1.out.Aggs,K ac 62 l11 c11 ob1.out.Items]) (Gf:=fun x1 out ob1 l6 c6 l7 c7 l8 c8 l9 c9 l10 c10 l11 c11=>[(0,tV (an b1 0)),(3,im group),(8,tV (an b2 0)),(19,tV (an b6 0))]) (fun x1 out ob1 l6 c6 l7 c7 l8 c8 l9 c9 l10 c10 l11 c11 h=>?_) (fun K3=>?_)
      ·skip
       refine aD<|cq h fun r9 q_r9 h=>?_
       refine eI (ts:=[_,_,_,_,_,_,_,_,_,_,_]) mixed I I
        ⟨f8 I I,
        ⟨ga 160 0 I I (bl (M I)),
        ⟨ga 161 1 I I (lv 0 wz I I I),
        ⟨ga 162 2 I I (bB (r:=rH bA [(1,J l6 c6 ob1.sources.length),(2,J l7 c7 ob1.out.Tables.length),(3,J l8 c8 ob1.out.Joins.length),(8,J l9 c9 ob1.out.Keys.length),(9,J l10 c10 ob1.out.Aggs.length),(10,J l11 c11 ob1.out.Items.length)]) (x:=ob1) qa I I (nD mH) (.tail _ (.tail _ (.head _))) (M I)),
        ⟨f8 I I,
        ⟨ga 164 4 I I (bl (M I)),
        ⟨ga 165 5 I I (lv 2 eW I I I),
        ⟨ga 166 6 I I (lv 2 pu I I I),
        ⟨ga 167 7 I I (cP fL I (.tail _ (.tail _ (.head _))) (.tail _ (.tail _ (.tail _ (.tail _ (.head _))))) (M I)),
        ⟨fg 163 3 168 8 I I I (bn RK (Kd _ _ q_r9) ⟨(M I),(kB (M I)),d⟩),
        ⟨ga 169 9 I I (AW I),
        d⟩⟩⟩⟩⟩⟩⟩⟩⟩⟩⟩ ?_
       refine av ?_;refine ig (h2:=fun kinds=>mE out ob1 kinds=some R) (Of:=fun kinds=>[bx ac 62 b2 x1,bx ac 62 b6 out,bx (rH bA [(1,J l6 c6 ob1.sources.length),(2,J l7 c7 ob1.out.Tables.length),(3,J l8 c8 ob1.out.Joins.length),(8,J l9 c9 ob1.out.Keys.length),(9,J l10 c10 ob1.out.Aggs.length),(10,J l11 c11 ob1.out.Items.length)]) 137 b1 ob1,K bg 48 l6 c6 ob1.sources,K aP 3 l7 c7 ob1.out.Tables,K aw 71 l8 c8 ob1.out.Joins,K aP 3 l9 c9 ob1.out.Keys,K aN 73 l10 c10 ob1.out.Aggs,K ac 62 l11 c11 ob1.out.Items]) (Gf:=fun kinds=>[(8,tV (an b2 0)),(19,tV (an b6 0)),(22,pE kinds)]) (fun kinds h=>?_) (fun K4=>?_)
       ·skip
        refine aY<|Q (bB bD I I cD (.tail _ (.head _)) (M I))<|aX I<|eo h Qc (FO _ _) (dd I) fun r10 h=>aX I<|cY I I<|cY I I<|bj I<|aY<|Q (bB bD I I cD (.tail _ (.head _)) (M I))<|aX I<|bL bD aj I<|be I<|cn 8 I<|aM<|ae ?_;exact ae<|ae<|ae<|ae<|ae<|ae<|so h▸c0 (ts:=[H ac out,bd r10.2]) (rvs:=[.cell 8 62,.tmp 9]) I I ⟨di bD I I I,bE I,d⟩ (FE [(l6,c6),(l7,c7),(l8,c8),(l9,c9),(l10,c10),(l11,c11)]) I I
       ·skip
        refine aH I<|bY h I (fun h=>?_) (fun h=>?_)
        ·refine cq h fun r11 q_r11 h=>?_
         refine eI (ts:=[_,_,_,_,_,_,_,_,_,_]) mixed I I
          ⟨f8 I I,
          ⟨ga 171 0 I I (bl (M I)),
          ⟨ga 172 1 I I (lv 0 wz I I I),
          ⟨ga 173 2 I I (bB (r:=rH bA [(1,J l6 c6 ob1.sources.length),(2,J l7 c7 ob1.out.Tables.length),(3,J l8 c8 ob1.out.Joins.length),(8,J l9 c9 ob1.out.Keys.length),(9,J l10 c10 ob1.out.Aggs.length),(10,J l11 c11 ob1.out.Items.length)]) (x:=ob1) qa I I (nD mH) (.tail _ (.tail _ (.head _))) (M I)),
          ⟨f8 I I,
          ⟨ga 175 4 I I (bl (M I)),
          ⟨ga 176 5 I I (lv 2 eW I I I),
          ⟨ga 177 6 I I (bB (r:=rH bA [(1,J l6 c6 ob1.sources.length),(2,J l7 c7 ob1.out.Tables.length),(3,J l8 c8 ob1.out.Joins.length),(8,J l9 c9 ob1.out.Keys.length),(9,J l10 c10 ob1.out.Aggs.length),(10,J l11 c11 ob1.out.Items.length)]) (x:=ob1) vn I I (nD fO) (.tail _ (.tail _ (.head _))) (M I)),
          ⟨fg 174 3 178 7 I I I (bn T9 (PR _ _ q_r11) ⟨(M I),(M I),d⟩),
          ⟨ga 179 8 I I (AW I),
          d⟩⟩⟩⟩⟩⟩⟩⟩⟩⟩ ?_
         exact cm (K4 r11 h) (bb I)
        ·refine bk ?_;exact cm (K4 r9 h) (bb I)
      ·skip
       refine aY<|ba yj sU cF I<|Q (fh (M I) hI)<|bY h I (fun h=>?_) (fun h=>?_)
       ·refine aH I<|cC jY I<|ba yj sU cF I<|aX I<|cq h fun r12 q_r12 h=>jl (EffOK.fr7 (EffOK.fr7 (EffOK.fr7 (EffOK.fr7 (EffOK.fr7 (EffOK.fr7 (EffOK.fr7 (d7 (xs:=[.tmp 141,.tmp 142,.tmp 144,.tmp 145]) (ts:=[tV (an b1 0),H bI t,bd e.R,im group]) (kE b1 r7.2.2 i3) _ I PZ (ihR b1 i3 r7.2.2 _ _ _ q_r12) ⟨(M I),(M I),(M I),(M I),d⟩ (fun _=>I))))))))) I fun i4=>?_;refine(show RG _ _ _ _ [_,_,_,_,_,_,_,_,_] ((146,tT [H ac r12.1,bd r12.2.1])::_)from ?_);refine aX I<|cY I I<|cY I I<|aV bD cQ I fun b7=>bL bD aj I<|aK 20 I<|bj I<|aT<|aX I<|gW I<|bY h I (fun h=>?_) (fun h=>?_)
        ·exact aY<|Q (bU bD BN cQ I)<|aX I<|Jm<|bL bD aj I<|be I<|af<|af<|cn 8 I<|dp<|aM<|ae<|ae<|ae<|ae<|ae<|ae<|ae<|so h▸c0 (ts:=[H ac tk,bd r12.2.1]) (rvs:=[.cell 8 62,.tmp 9]) I I ⟨di bD I I I,bE I,d⟩ i4 I I
        ·refine gC<|aJ<|ba mh iA cF I<|Q (bU (y:=(⟨e.Tag,(0:Int),(0:Int),(0:Int),HS⟩:aC)) eJ yK iS (⟨_,_,_,_,_,I,kY,I,(M I),I⟩))<|cC bD I<|cC bD I<|Q (a8 (r:=ac) (ys:=[r7.1,r12.1]) (xs:=[.tmp 156,.tmp 157]) mX bD I I I I I ⟨(M I),(M I),d⟩)<|eo h Jh (At _ _) (dd I) fun r13 h=>ta<|bL bD aj I<|bz<|dp<|dp<|dp<|dp<|dp<|dp<|dp<|dp<|my ?_;exact cm (K3 tk r13 r12.2.2 (i4.h 0).1 (i4.h 0).2 (i4.h 1).1 (i4.h 1).2 (i4.h 2).1 (i4.h 2).2 (i4.h 3).1 (i4.h 3).2 (i4.h 4).1 (i4.h 4).2 (i4.h 5).1 (i4.h 5).2 h) (bb I)
       ·refine bk<|dp<|dp<|dp<|dp<|dp<|dp<|dp<|dp<|my ?_;exact cm (K3 tk r8 r7.2.2 (i3.h 0).1 (i3.h 0).2 (i3.h 1).1 (i3.h 1).2 (i3.h 2).1 (i3.h 2).2 (i3.h 3).1 (i3.h 3).2 (i3.h 4).1 (i3.h 4).2 (i3.h 5).1 (i3.h 5).2 h) (bb I)
def Zb(b1:Nat)(ix:OI) b t place group{R}(h:rE b t place group=some R):ea aZ 151 [tV (an b1 0),H bI t,bd place,im group] (kE b1 b ix) (fun _:OI=>tT [H ac R.1,bd R.2.1]) (fun j=>kE b1 R.2.2 j):=Tx gi b1 ix b t place group h

end Go.Proofs.YthbdkceckjihgaaGreatDoor

