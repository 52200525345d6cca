/- dr of this claim: P19. -/
import Derived.Test.YtnmjbolollcokaaGreatDoorRdT
import Derived.Test.YtnmjbolollcokaaGreatDoorRdP18
set_option linter.all false
namespace Go.Proofs.YtnmjbolollcokaaGreatDoor
open Go
set_option maxRecDepth 100000

theorem Q8: ∀(fu:Nat) (l:bR) (c:ce) (i:Int) (frags:(List bK)) {R:bI} (h:dV fu l c i frags=some R),bo bl 43 [tD ck l,tD da c,cb i,fc (aH) frags] (tD aW R):=by
 intro fu
 induction fu with
 |zero=>intro l c i frags R h;exact(nn h).elim
 |succ fu ih=>
  intro l c i frags R h
  refine bo.of Tryz.func43 J J J fun w0 S0=>aw<|zo J (jt J)<|zo J (jt J)<|bj (r:=aW) (x:=qX) bW (fun _=>jo _) J fun b=>au<|aw<|zo J (bD jn dM J J)<|zo J (bm iB J J)<|aE J<|bz h fun e q_e h=>zo J (iQ om cz J J J q_e)<|zo J (bm cz J J)<|bj (r:=ah) (x:=zk) cz (fun _=>iT _) J fun b1=>ai cz J aj J (ht J) (ht J)<|bh 9 J<|au<|aw<|zo J (bm lx J J) ?_;refine aE J<|bz h fun r q_r h=>zo J (aC Sn (Pn _ _ q_r) ⟨(ht J),(ht J),aT⟩)<|aE J<|zo J (kG J J)<|zo J (kG J J)<|bu J<|bu J<|au<|aw<|aE J<|zo J (cm (y:=(⟨frags,[],[],false,[]⟩:bI)) bW Lx jo (⟨_,_,_,_,_,J,lA,J,(ht J),J⟩))<|bj (r:=aW) (x:=qX) bW (fun _=>jo _) J fun b2=>ai bW J aj J (ht J) (ht J)<|au<|aw<|zo J (cm (y:=qX) bW Lx jo (J))<|bj (r:=aW) (x:=qX) bW (fun _=>jo _) J fun b3=>ai bW J aj J (ht J) (ht J)<|aJ ?_;refine aq ?_;refine dD (Z:=fun a1=>fX (dV fu) l c frags e r a1=some R) (Of:=fun a1=>[bx aW 102 b qX,bx aW 102 b2 a1,bx aW 102 b3 qX]) (Gf:=fun a1=>[(3,fc (aH) frags),(4,bt ck l),(5,bt da c),(8,tV (aM b 0)),(9,bt ah e),(10,dI r.1),(12,tV (aM b2 0)),(13,tV (aM b3 0))]) (fun a1 h=>?_) (fun K=>?_)
  ·skip
   refine dD (Z:=fun b4=>kU c frags e r a1 b4=some R) (Of:=fun b4=>[bx aW 102 b qX,bx aW 102 b2 a1,bx aW 102 b3 b4]) (Gf:=fun b4=>[(3,fc (aH) frags),(5,bt da c),(8,tV (aM b 0)),(9,bt ah e),(10,dI r.1),(12,tV (aM b2 0)),(13,tV (aM b3 0))]) (fun b4 h=>?_) (fun K1=>?_)
   ·skip
    refine aw<|zo J (bm cz J J)<|aE J<|zo J (bm yL J J)<|zo J (aA bW J J aR (.tail _ (.head _)) (ht J))<|zo J (aA bW J J aR (.tail _ (.tail _ (.head _))) (ht J))<|bz h fun r1 q_r1 h=>zo J (aC Yu (Uj _ _ _ _ _ q_r1) ⟨(ht J),(ht J),(ht J),(ht J),(ht J),aT⟩)<|bj (r:=aW) (x:=qX) bW (fun _=>jo _) J fun b5=>ai bW J aj J (ht J) (ht J)<|au ?_;refine dD (Z:=fun s=>rb s=some R) (Of:=fun s=>[bx aW 102 b qX,bx aW 102 b5 s]) (Gf:=fun s=>[(8,tV (aM b 0)),(14,tV (aM b5 0))]) (fun s h=>?_) (fun K2=>?_)
    ·skip
     refine aw<|zo J (aA bW J J aR (.tail _ (.head _)) (ht J))<|ai bW J aj J (ht J) (ht J)<|bh 8 J<|au<|ak<|aL ?_;cases so h;exact dF J bW J J J
    ·skip
     refine aw<|zo J (bD fC cY J J)<|zo J (bm bA J J)<|zo J (eO (ht J) hI)<|au<|cE h J (fun h=>?_) (fun h=>?_)
     ·refine am<|aE J<|zo J (dy 0 ic J J J)<|ai jh J lA J (ht J) (ht J)<|aJ<|aD<|aL<|aD<|aL<|bE ?_;exact bJ (K2 (bI.mk frags r1.Nodes r1.Kinds r1.One r1.Hashed) h) (bg J)
     ·refine bk<|aD<|aL<|aD<|aL<|bE ?_;exact bJ (K2 r1 h) (bg J)
   ·skip
    refine aw<|zo J (bD iy d9 J J)<|zo J (bm bA J J)<|zo J (cU (ht J) hI)<|au<|cE h J (fun h=>?_) (fun h=>?_)
    ·refine am<|zo J (bm lx J J)<|zo J (bm yL J J)<|zo J (bD iy d9 J J)<|zo J (bm bA J J)<|zo J (dy 0 ic J J J)<|zo J (aA jh J J iG (.tail _ (.head _)) (ht J))<|bz h fun r2 q_r2 h=>zo J (aC Vh (ih _ _ _ _ q_r2) ⟨(ht J),(ht J),(ht J),(ht J),aT⟩)<|c0<|ai bW J aj J (ht J) (ht J)<|aJ<|aD<|aD ?_;exact bJ (K1 r2 h) (bg J)
    ·refine bk ?_;exact bJ (K1 qX h) (bg J)
  ·skip
   refine aw<|zo J (bD fC cY J J)<|zo J (bm bA J J)<|zo J (cU (ht J) hI)<|au<|cE h J (fun h=>?_) (fun h=>?_)
   ·refine am<|zo J (bm lx J J)<|zo J (bm yL J J)<|zo J (bD fC cY J J)<|zo J (bm bA J J)<|aE J<|bz h fun r3 q_r3 h=>zo J (aC Vh (ih _ _ _ _ q_r3) ⟨(ht J),(ht J),(ht J),(ht J),aT⟩)<|bL<|ai bW J aj J (ht J) (ht J)<|aJ<|bE<|bE<|aD ?_;exact bJ (K r3 h) (bg J)
   ·refine bk<|bE<|aD ?_;exact bJ (K (⟨frags,[],[],false,[]⟩:bI) h) (bg J)
theorem Uy(l:bR)(c:ce)(i:Int)(frags:(List bK)){R:bI}(h:rE l c i frags=some R):bo bl 43 [tD ck l,tD da c,cb i,fc (aH) frags] (tD aW R):=Q8 cZ l c i frags h

theorem UX(l:bR)(c:ce){R:dp×Int}(h:pW l c=some R):bo bl 12 [tD ck l,tD da c] (tT [tD bG R.1,cb R.2]):=by
 refine bo.of Tryz.func12 J J J fun w0 S0=>aw<|zo J (jt J)<|zo J (jt J)<|bj (r:=bG) (x:=jX) jm (fun _=>jG _) J fun b=>zo J (dB)<|au<|ac<|aw<|zo J (bm lx J J)<|bz h fun r q_r h=>zo J (aC YT (UB _ q_r) ⟨(ht J),aT⟩)<|zo J (dh (ht J))<|au<|cE h J (fun h=>?_) (fun h=>?_)
 ·refine aw<|zo J (cm (y:=jX) jm Ea jG (J))<|ai jm J aj J (ht J) (ht J)<|zo J (dB)<|au<|ak<|M<|bH 4 J ?_;cases so h;exact kP J J ⟨fh jm J J J,dA J,aT⟩
 ·refine dz<|ac<|aw<|zo J (bm yL J J)<|bz h fun r1 q_r1 h=>zo J (aC YS (UA _ q_r1) ⟨(ht J),aT⟩)<|zo J (dh (ht J))<|au<|cE h J (fun h=>?_) (fun h=>?_)
  ·refine aw<|zo J (cm (y:=jX) jm Ea jG (J))<|ai jm J aj J (ht J) (ht J)<|zo J (dB)<|au<|ak<|M<|bH 4 J ?_;cases so h;exact kP J J ⟨fh jm J J J,dA J,aT⟩
  ·refine dz<|ac<|aw<|zo J (bm lx J J)<|zo J (bm yL J J)<|bz h fun r2 q_r2 h=>zo J (aC YR (Uz _ _ q_r2) ⟨(ht J),(ht J),aT⟩)<|zo J (dh (ht J))<|au<|cE h J (fun h=>?_) (fun h=>?_)
   ·refine aw<|zo J (cm (y:=jX) jm Ea jG (J))<|ai jm J aj J (ht J) (ht J)<|zo J (dB)<|au<|ak<|M<|bH 4 J ?_;cases so h;exact kP J J ⟨fh jm J J J,dA J,aT⟩
   ·refine dz<|aw<|zo J (bm lx J J)<|zo J (bm yL J J)<|zo J (bD jn dM J J)<|zo J (bm iB J J)<|zo J (fW om J)<|zo J (dL (ht J) hI)<|bz h fun r3 q_r3 h=>zo J (aC Vh (Uy _ _ _ _ q_r3) ⟨(ht J),(ht J),(ht J),jr,aT⟩)<|bz h fun r4 q_r4 h=>zo J (aC ND (BI _ q_r4) ⟨(ht J),aT⟩)<|bj (r:=aW) (x:=qX) bW (fun _=>jo _) J fun b1=>ai bW J aj J (ht J) (ht J)<|bh 6 J<|au<|ac<|bz h fun l1 q_l1 h=>bz h fun l2 q_l2 h=>?_
    refine yd 11 [([0],fun s=>tO aH ((s.getD 0 nz).h 0).1 ((s.getD 0 nz).h 0).2 Bj),tc (bt zj r4.Frags),tc (fc (aH) r4.Frags),([3],fun s=>tO aH ((s.getD 0 nz).h 0).1 ((s.getD 0 nz).h 0).2 l1),tc (bt xf r4.Nodes),tc (fc (ah) r4.Nodes),tc (tD aH (⟨r4.Nodes,(2:Int),(4:Int),[]⟩:bK)),tc (fc (aH) ([(⟨r4.Nodes,(2:Int),(4:Int),[]⟩:bK)])),([8],fun s=>tO aH ((s.getD 0 nz).h 0).1 ((s.getD 0 nz).h 0).2 l2),tc (tD bG (⟨l2⟩:dp)),([10],fun s=>tV (aM ((s.getD 0 nz).h 0).2 0))] [true,false,false,true,false,false,false,false,true,false,true] [([],fun _=>[bx bG 33 b jX]),([0],fun sg=>[tip aH 74 ((sg 0).h 0).1 ((sg 0).h 0).2 Bj,bx bG 33 b jX]),([0,3],fun sg=>[tip aH 74 ((sg 3).h 0).1 ((sg 3).h 0).2 l1,bx bG 33 b jX]),([0,3,8],fun sg=>[tip aH 74 ((sg 8).h 0).1 ((sg 8).h 0).2 l2,bx bG 33 b jX]),([10],fun sg=>[bx bG 33 ((sg 10).h 0).2 jX,bx bG 33 b jX]),([0,10],fun sg=>[bx bG 33 ((sg 10).h 0).2 jX,tip aH 74 ((sg 0).h 0).1 ((sg 0).h 0).2 Bj,bx bG 33 b jX]),([0,3,10],fun sg=>[bx bG 33 ((sg 10).h 0).2 jX,tip aH 74 ((sg 3).h 0).1 ((sg 3).h 0).2 l1,bx bG 33 b jX]),([0,3,8,10],fun sg=>[bx bG 33 ((sg 10).h 0).2 jX,tip aH 74 ((sg 8).h 0).1 ((sg 8).h 0).2 l2,bx bG 33 b jX])] (fun _=>J) mixed J J J J
     ⟨⟨[],_,[([],[0]),([10],[0,10])],J,aT,J,J,J,J,J,⟨fun sg=>bN J (wC (r:=aH) (ys:=Bj) (xs:=[]) kx gk J J J J J trivial),fun sg=>bN J (EffOK.post_imp (post:=fun x__=>(fun(sg:Nat→OI)=>[tip aH 74 ((sg 0).h 0).1 ((sg 0).h 0).2 Bj,bx bG 33 ((sg 10).h 0).2 jX,bx bG 33 b jX]) (EI sg 0 x__)) (wC (r:=aH) (ys:=Bj) (xs:=[]) kx gk J J J J J trivial) (fun h=>du.pick [1,0,2] J h)),aT⟩⟩,
     ⟨⟨[⟨6,fun _=>bt aW r4,none⟩],_,[[],[0],[10],[0,10]],J,⟨(fun _=>J),aT⟩,J,J,J,J,J,⟨fun sg=>aa J (bD ic iG J J),fun sg=>aa J (bD ic iG J J),fun sg=>aa J (bD ic iG J J),fun sg=>aa J (bD ic iG J J),aT⟩⟩,
     ⟨⟨[⟨31,fun _=>bt zj r4.Frags,some 1⟩],_,[[],[0],[10],[0,10]],J,⟨(fun _=>J),aT⟩,J,J,J,J,J,⟨fun sg=>aa J (bm jh J J),fun sg=>aa J (bm jh J J),fun sg=>aa J (bm jh J J),fun sg=>aa J (bm jh J J),aT⟩⟩,
     ⟨⟨[⟨30,fun sg=>tO aH ((sg 0).h 0).1 ((sg 0).h 0).2 Bj,some 0⟩,⟨32,fun _=>tD zj r4.Frags,some 2⟩],_,[([0],[0,3]),([0,10],[0,3,10])],J,⟨(fun _=>J),(fun _=>J),aT⟩,J,J,J,J,J,⟨fun sg=>bN J (jR gk J J J J kx J (ht J) (ht J) q_l1),fun sg=>bN J (EffOK.post_imp (post:=fun x__=>(fun(sg:Nat→OI)=>[tip aH 74 ((sg 3).h 0).1 ((sg 3).h 0).2 l1,bx bG 33 ((sg 10).h 0).2 jX,bx bG 33 b jX]) (EI sg 3 x__)) (EffOK.fr1 (jR gk J J J J kx J (ht J) (ht J) q_l1)) (fun h=>du.pick [1,0,2] J h)),aT⟩⟩,
     ⟨⟨[⟨6,fun _=>bt aW r4,none⟩],_,[[],[0],[0,3],[10],[0,10],[0,3,10]],J,⟨(fun _=>J),aT⟩,J,J,J,J,J,⟨fun sg=>aa J (bD mF jA J J),fun sg=>aa J (bD mF jA J J),fun sg=>aa J (bD mF jA J J),fun sg=>aa J (bD mF jA J J),fun sg=>aa J (bD mF jA J J),fun sg=>aa J (bD mF jA J J),aT⟩⟩,
     ⟨⟨[⟨34,fun _=>bt xf r4.Nodes,some 4⟩],_,[[],[0],[0,3],[10],[0,10],[0,3,10]],J,⟨(fun _=>J),aT⟩,J,J,J,J,J,⟨fun sg=>aa J (bm iB J J),fun sg=>aa J (bm iB J J),fun sg=>aa J (bm iB J J),fun sg=>aa J (bm iB J J),fun sg=>aa J (bm iB J J),fun sg=>aa J (bm iB J J),aT⟩⟩,
     ⟨⟨[⟨35,fun _=>tD xf r4.Nodes,some 5⟩],_,[[],[0],[0,3],[10],[0,10],[0,3,10]],J,⟨(fun _=>J),aT⟩,J,J,J,J,J,⟨fun sg=>aa J (cm (y:=(⟨r4.Nodes,(2:Int),(4:Int),[]⟩:bK)) gk G3 mC (⟨_,_,_,_,_,J,oX,J,(ht J),⟨_,_,_,_,_,J,nM,J,hI,⟨_,_,_,_,_,J,oW,J,hI,J⟩⟩⟩)),fun sg=>aa J (cm (y:=(⟨r4.Nodes,(2:Int),(4:Int),[]⟩:bK)) gk G3 mC (⟨_,_,_,_,_,J,oX,J,(ht J),⟨_,_,_,_,_,J,nM,J,hI,⟨_,_,_,_,_,J,oW,J,hI,J⟩⟩⟩)),fun sg=>aa J (cm (y:=(⟨r4.Nodes,(2:Int),(4:Int),[]⟩:bK)) gk G3 mC (⟨_,_,_,_,_,J,oX,J,(ht J),⟨_,_,_,_,_,J,nM,J,hI,⟨_,_,_,_,_,J,oW,J,hI,J⟩⟩⟩)),fun sg=>aa J (cm (y:=(⟨r4.Nodes,(2:Int),(4:Int),[]⟩:bK)) gk G3 mC (⟨_,_,_,_,_,J,oX,J,(ht J),⟨_,_,_,_,_,J,nM,J,hI,⟨_,_,_,_,_,J,oW,J,hI,J⟩⟩⟩)),fun sg=>aa J (cm (y:=(⟨r4.Nodes,(2:Int),(4:Int),[]⟩:bK)) gk G3 mC (⟨_,_,_,_,_,J,oX,J,(ht J),⟨_,_,_,_,_,J,nM,J,hI,⟨_,_,_,_,_,J,oW,J,hI,J⟩⟩⟩)),fun sg=>aa J (cm (y:=(⟨r4.Nodes,(2:Int),(4:Int),[]⟩:bK)) gk G3 mC (⟨_,_,_,_,_,J,oX,J,(ht J),⟨_,_,_,_,_,J,nM,J,hI,⟨_,_,_,_,_,J,oW,J,hI,J⟩⟩⟩)),aT⟩⟩,
     ⟨⟨[⟨36,fun _=>tD aH (⟨r4.Nodes,(2:Int),(4:Int),[]⟩:bK),some 6⟩],_,[[],[0],[0,3],[10],[0,10],[0,3,10]],J,⟨(fun _=>J),aT⟩,J,J,J,J,J,⟨fun sg=>aa J (aN (r:=aH) (ys:=[(⟨r4.Nodes,(2:Int),(4:Int),[]⟩:bK)]) (xs:=[.tmp 36]) kx gk J J J J J ⟨(ht J),aT⟩),fun sg=>aa J (aN (r:=aH) (ys:=[(⟨r4.Nodes,(2:Int),(4:Int),[]⟩:bK)]) (xs:=[.tmp 36]) kx gk J J J J J ⟨(ht J),aT⟩),fun sg=>aa J (aN (r:=aH) (ys:=[(⟨r4.Nodes,(2:Int),(4:Int),[]⟩:bK)]) (xs:=[.tmp 36]) kx gk J J J J J ⟨(ht J),aT⟩),fun sg=>aa J (aN (r:=aH) (ys:=[(⟨r4.Nodes,(2:Int),(4:Int),[]⟩:bK)]) (xs:=[.tmp 36]) kx gk J J J J J ⟨(ht J),aT⟩),fun sg=>aa J (aN (r:=aH) (ys:=[(⟨r4.Nodes,(2:Int),(4:Int),[]⟩:bK)]) (xs:=[.tmp 36]) kx gk J J J J J ⟨(ht J),aT⟩),fun sg=>aa J (aN (r:=aH) (ys:=[(⟨r4.Nodes,(2:Int),(4:Int),[]⟩:bK)]) (xs:=[.tmp 36]) kx gk J J J J J ⟨(ht J),aT⟩),aT⟩⟩,
     ⟨⟨[⟨33,fun sg=>tO aH ((sg 3).h 0).1 ((sg 3).h 0).2 l1,some 3⟩,⟨37,fun _=>tD zj ([(⟨r4.Nodes,(2:Int),(4:Int),[]⟩:bK)]),some 7⟩],_,[([0,3],[0,3,8]),([0,3,10],[0,3,8,10])],J,⟨(fun _=>J),(fun _=>J),aT⟩,J,J,J,J,J,⟨fun sg=>bN J (jR gk J J J J kx J (ht J) (ht J) q_l2),fun sg=>bN J (EffOK.post_imp (post:=fun x__=>(fun(sg:Nat→OI)=>[tip aH 74 ((sg 8).h 0).1 ((sg 8).h 0).2 l2,bx bG 33 ((sg 10).h 0).2 jX,bx bG 33 b jX]) (EI sg 8 x__)) (EffOK.fr1 (jR gk J J J J kx J (ht J) (ht J) q_l2)) (fun h=>du.pick [1,0,2] J h)),aT⟩⟩,
     ⟨⟨[⟨38,fun sg=>tO aH ((sg 8).h 0).1 ((sg 8).h 0).2 l2,some 8⟩],_,[[0,3,8],[0,3,8,10]],J,⟨(fun _=>J),aT⟩,J,J,J,J,J,⟨fun sg=>aa J (cm (y:=(⟨l2⟩:dp)) jm Ea jG (⟨_,_,_,_,_,J,yj,J,(kT (ht J)),J⟩)),fun sg=>aa J (cm (y:=(⟨l2⟩:dp)) jm Ea jG (⟨_,_,_,_,_,J,yj,J,(kT (ht J)),J⟩)),aT⟩⟩,
     ⟨⟨[],_,[([],[10]),([0],[0,10]),([0,3],[0,3,10]),([0,3,8],[0,3,8,10])],J,aT,J,J,J,J,J,⟨fun sg=>bN J (ev (r:=bG) (x:=jX) jm (fun _=>jG _)),fun sg=>bN J (ev (r:=bG) (x:=jX) jm (fun _=>jG _)),fun sg=>bN J (ev (r:=bG) (x:=jX) jm (fun _=>jG _)),fun sg=>bN J (ev (r:=bG) (x:=jX) jm (fun _=>jG _)),aT⟩⟩,
     aT⟩⟩⟩⟩⟩⟩⟩⟩⟩⟩⟩ (fun sg=>?_)
    refine(show RG _ _ _ _ [bx bG 33 ((sg 10).h 0).2 jX,tip aH 74 ((sg 8).h 0).1 ((sg 8).h 0).2 l2,bx bG 33 b jX] _ from ?_);refine ai jm J aj J (ht J) (ht J)<|bh 7 J<|au<|ac<|aw<|zo J (bD iN fm J J)<|zo J (bm jh J J)<|zo J (fW kx J)<|zo J (d5 (ht J) hI)<|au<|cE h J (fun h=>?_) (fun h=>?_)
    ·refine aw<|zo J (cm (y:=jX) jm Ea jG (J))<|bL<|ai jm J aj J (ht J) (ht J)<|zo J (dB)<|au<|ak<|M<|bH 4 J<|aL ?_;cases so h;exact kP J J ⟨fh jm J J J,dA J,aT⟩
    ·refine dz<|ac<|aw<|zo J (dB)<|au<|ax<|bB<|mH ?_;refine aP (De (Z:=fun n i x=>mi l2 n i x=some R) (Of:=fun i x=>[bx bG 33 b x]) (Gf:=fun i x=>[(4,tV (aM b 0)),(7,bt bG (⟨l2⟩:dp)),(8,cb i)]) (fun i x h=>nn h) (fun n ih i x h=>?_) cZ (0:Int) jX h) (bg J);refine aB<|ac<|aw<|aE J<|zo J (bD iN fm J J)<|zo J (bm jh J J)<|zo J (fW kx J)<|zo J (ft J J)<|au<|cE h J (fun h=>?_) (fun h=>?_)
     ·refine dz<|ac<|ax<|aw<|zo J (bD iN fm J J)<|zo J (bm jh J J)<|aE J<|bz h fun e q_e h=>zo J (iQ kx gk J J J q_e)<|zo J (bD zK rs J J)<|zo J (bm iB J J)<|zo J (fW om J)<|zo J (d5 (ht J) hI)<|au<|cE h J (fun h=>?_) (fun h=>?_)
      ·refine aw<|zo J (cm (y:=jX) jm Ea jG (J))<|ai jm J aj J (ht J) (ht J)<|zo J (dB)<|au<|ak ?_;refine ay (M (M (ay (M ?_))));refine bH 4 J ?_;cases so h;exact kP J J ⟨fh jm J J J,dA J,aT⟩
      ·refine bk<|an<|aq<|am<|aE rfl<|zo rfl (ei (ht rfl) hI)<|bu rfl<|aJ ?_;exact be (aP (ih (IntKind.i64.wrap (i+(1:Int))) x h) (bg J))
     ·refine bp ?_;refine ae (ae (aK ?_));refine aq<|aw<|zo rfl (bm jm rfl rfl)<|ai jm rfl aj rfl (ht rfl) (ht rfl)<|zo rfl (dB)<|au<|ak<|bH 4 rfl ?_;cases so h;exact kP J J ⟨fh jm J J J,dA J,aT⟩

theorem Hk(a1:bf)(b:bf){R:Bool}(h:rf a1 b=some R):bo bl 123 [tD bn a1,tD bn b] (gq R):=by
 refine bo.of Tryz.func123 J J J fun w0 S0=>aw<|zo J (jt J)<|zo J (jt J)<|zo J (ez)<|au<|ac<|aw<|zo J (bD de bZ J J)<|zo J (bm ir J J)<|zo J (fW oo J)<|zo J (bD de bZ J J)<|zo J (bm ir J J)<|zo J (fW oo J)<|zo J (cF (ht J) (ht J))<|au<|cE h J (fun h=>?_) (fun h=>?_)
 ·refine aw<|zo J (ez)<|au<|ak<|M ?_;cases so h;exact aF J J
 ·refine dz<|ac<|aw<|zo J (bD de bZ J J)<|zo J (bm ir J J)<|zo J (fW oo J)<|zo J (bQ hI)<|au<|ax<|br (k:=14) J fun hN=>bB ?_;refine aP (em (Z:=fun ls i=>(a1.Nodes.drop i=ls)∧px b ls i=some R) (Of:=fun _ i=>[]) (Gf:=fun _ i=>[(2,bt bn a1),(3,bt bn b),(15,jV a1.Nodes),(16,cb (i:Int))]) (fun i h=>?_) (fun e tl ih i h=>?_) a1.Nodes 0 ⟨J,h⟩) (bg J)
  ·obtain⟨hx,h⟩:=h
   refine aB<|aw<|zo J (ft J J)<|au<|ac<|bP (ht J) (dU hx)<|bp ?_;refine ae (ae (aK ?_));refine aq<|aw<|zo rfl (ez)<|au<|ak ?_;cases so h;exact aF J J
  ·obtain⟨hx,h⟩:=h
   refine aB<|aw<|zo J (ft J J)<|au<|ac<|bO (ht J) (dN hx)<|dz<|ac<|ax<|aw<|aE J<|bu J<|au<|ac<|bz h fun e1 q_e1 h=>?_
   refine eu (ts:=[_,_,_,_,_,_,_,_,_,_,_]) mixed J J
    ⟨ef 2 J J J (bD de bZ J J),
    ⟨cT 19 0 J J J (bm ir J J),
    ⟨ef 5 J J J (cG J),
    ⟨dG 20 1 21 2 J J J J (iQ oo cR J J J (dO hx)),
    ⟨cT 22 3 J J J (bm cR J J),
    ⟨ef 3 J J J (bD de bZ J J),
    ⟨cT 24 5 J J J (bm ir J J),
    ⟨ef 5 J J J (cG J),
    ⟨dG 25 6 26 7 J J J J (iQ oo cR J J J q_e1),
    ⟨cT 27 8 J J J (bm cR J J),
    ⟨dG 23 4 28 9 J J J J (C2 Wg (ht J) (ht J)),
    aT⟩⟩⟩⟩⟩⟩⟩⟩⟩⟩⟩ ?_
   refine aq<|cE h rfl (fun h=>?_) (fun h=>?_)
   ·refine aw<|zo J (ez)<|au<|ak ?_;refine ay (M (M (ay (M ?_))));cases so h;exact aF J J
   ·refine bk<|an<|aq<|am<|zo rfl (nh (dm hx hN) rfl)<|aE rfl<|aJ ?_;exact be (aP (ih (i+1) ⟨dl hx,h⟩) (bg J))

theorem R5(a1:(List bf))(b:(List bf)){R:Bool}(h:rJ a1 b=some R):bo bl 124 [fc (bn) a1,fc (bn) b] (gq R):=by
 refine bo.of Tryz.func124 J J J fun w0 S0=>aw<|zo J (ez)<|au<|ac<|aw<|aE J<|zo J (fW nc J)<|aE J<|zo J (fW nc J)<|zo J (cF (ht J) (ht J))<|au<|cE h J (fun h=>?_) (fun h=>?_)
 ·refine aw<|zo J (ez)<|au<|ak<|M ?_;cases so h;exact aF J J
 ·refine dz<|ac<|aw<|aE J<|zo J (fW nc J)<|zo J (bQ hI)<|au<|ax<|br (k:=11) J fun hN=>bB ?_;refine aP (em (Z:=fun ls i=>(a1.drop i=ls)∧mS b ls i=some R) (Of:=fun _ i=>[]) (Gf:=fun _ i=>[(0,fc (bn) a1),(1,fc (bn) b),(12,jV a1),(13,cb (i:Int))]) (fun i h=>?_) (fun e tl ih i h=>?_) a1 0 ⟨J,h⟩) (bg J)
  ·obtain⟨hx,h⟩:=h
   refine aB<|aw<|zo J (ft J J)<|au<|ac<|bP (ht J) (dU hx)<|bp ?_;refine ae (ae (aK ?_));refine aq<|aw<|zo rfl (ez)<|au<|ak ?_;cases so h;exact aF J J
  ·obtain⟨hx,h⟩:=h
   refine aB<|aw<|zo J (ft J J)<|au<|ac<|bO (ht J) (dN hx)<|dz<|ac<|ax<|aw<|aE J<|bu J<|au<|ac<|bz h fun e1 q_e1 h=>bz h fun r q_r h=>?_
   refine eu (ts:=[_,_,_,_,_,_,_,_,_,_]) mixed J J
    ⟨ef 0 J J J (cG J),
    ⟨ef 5 J J J (cG J),
    ⟨dG 16 0 17 1 J J J J (iQ nc eN J J J (dO hx)),
    ⟨cT 18 2 J J J (bm eN J J),
    ⟨ef 1 J J J (cG J),
    ⟨ef 5 J J J (cG J),
    ⟨dG 20 4 21 5 J J J J (iQ nc eN J J J q_e1),
    ⟨cT 22 6 J J J (bm eN J J),
    ⟨dG 19 3 23 7 J J J J (aC Qa (Hk _ _ q_r) ⟨(ht J),(ht J),aT⟩),
    ⟨cT 24 8 J J J (dh (ht J)),
    aT⟩⟩⟩⟩⟩⟩⟩⟩⟩⟩ ?_
   refine aq<|cE h rfl (fun h=>?_) (fun h=>?_)
   ·refine aw<|zo J (ez)<|au<|ak ?_;refine ay (M (M (ay (M ?_))));cases so h;exact aF J J
   ·refine bk<|an<|aq<|am<|zo rfl (nh (dm hx hN) rfl)<|aE rfl<|aJ ?_;exact be (aP (ih (i+1) ⟨dl hx,h⟩) (bg J))

theorem Ui(a1:af)(b:af){R:Bool}(h:qy a1 b=some R):bo bl 80 [tD ah a1,tD ah b] (gq R):=by
 refine bo.of Tryz.func80 J J J fun w0 S0=>aw<|zo J (jt J)<|zo J (jt J)<|zo J (ez)<|au<|ac<|aw<|zo J (bD lh eP J J)<|zo J (bm bA J J)<|zo J (bD lh eP J J)<|zo J (bm bA J J)<|zo J (cF (ht J) (ht J))<|aE J<|ci J J (fun hg=>bD fC cY J J)<|ci J J (fun hg=>aI bA J J (aS J hg))<|ci J J (fun hg=>bD fC cY J J)<|ci J J (fun hg=>aI bA J J (aS J hg))<|ci J J (fun hg=>cF (aS J hg) (aS J hg))<|zo J (nW J J)<|aE J ?_;refine ci J J (fun hg=>bD iy d9 J J)<|ci J J (fun hg=>aI bA J J (aS J hg))<|ci J J (fun hg=>bD iy d9 J J)<|ci J J (fun hg=>aI bA J J (aS J hg))<|ci J J (fun hg=>cF (aS J hg) (aS J hg))<|zo J (nW J J)<|aE J<|ci J J (fun hg=>bD oL hZ J J)<|ci J J (fun hg=>aI bA J J (aS J hg))<|ci J J (fun hg=>bD oL hZ J J)<|ci J J (fun hg=>aI bA J J (aS J hg))<|ci J J (fun hg=>cF (aS J hg) (aS J hg))<|zo J (nW J J)<|aE J<|ci J J (fun hg=>bD Eg ww J J)<|ci J J (fun hg=>aI yK J J (aS J hg))<|ci J J (fun hg=>bD Eg ww J J)<|ci J J (fun hg=>aI yK J J (aS J hg))<|ci J J (fun hg=>Ln K9 (aS J hg) (aS J hg))<|zo J (nW J J)<|aE J<|ci J J (fun hg=>bD tu ne J J)<|ci J J (fun hg=>aI bA J J (aS J hg))<|ci J J (fun hg=>bD tu ne J J) ?_;refine ci J J (fun hg=>aI bA J J (aS J hg))<|ci J J (fun hg=>cF (aS J hg) (aS J hg))<|zo J (nW J J)<|au<|cE h J (fun h=>?_) (fun h=>?_)
 ·refine aw<|zo J (ez)<|au<|ak<|M ?_;cases so h;exact aF J J
 ·refine dz<|ac<|aw<|zo J (bD io ek J J)<|zo J (bm pr J J)<|zo J (fW nC J)<|zo J (bD io ek J J)<|zo J (bm pr J J)<|zo J (fW nC J)<|zo J (cF (ht J) (ht J))<|aE J<|ci J J (fun hg=>bD lX gD J J)<|ci J J (fun hg=>aI xh J J (aS J hg))<|ci J J (fun hg=>bU vS (aS J hg))<|ci J J (fun hg=>bD lX gD J J)<|ci J J (fun hg=>aI xh J J (aS J hg))<|ci J J (fun hg=>bU vS (aS J hg))<|ci J J (fun hg=>cF (aS J hg) (aS J hg))<|zo J (nW J J)<|aE J<|bz h fun t q_t h=>ci J J (fun hg=>bD ly fq J J) ?_;refine ci J J (fun hg=>aI cD J J (aS J hg))<|ci J J (fun hg=>bD ly fq J J)<|ci J J (fun hg=>aI cD J J (aS J hg)) ?_
  obtain⟨r,h1t,h0t⟩:=og q_t
  have q_rg:=fun hb=>(h1t hb).1
  refine ci J J (fun hg=>aC PV (Ej _ _ (q_rg hg)) ⟨(aS J hg),(aS J hg),aT⟩)<|ci J J (fun hg=>dh (aS J hg))<|zo J (dj (ht J) (fun hb=>(aS J (nZ hb))) (fun hb=>(h1t hb).2) h0t)<|aE J<|bz h fun t1 q_t1 h=>ci J J (fun hg=>bD jP d8 J J)<|ci J J (fun hg=>aI cD J J (aS J hg))<|ci J J (fun hg=>bD jP d8 J J)<|ci J J (fun hg=>aI cD J J (aS J hg)) ?_
  obtain⟨r1,h1t1,h0t1⟩:=og q_t1
  have q_r1g:=fun hb=>(h1t1 hb).1
  refine ci J J (fun hg=>aC PV (Ej _ _ (q_r1g hg)) ⟨(aS J hg),(aS J hg),aT⟩)<|ci J J (fun hg=>dh (aS J hg))<|zo J (dj (ht J) (fun hb=>(aS J (nZ hb))) (fun hb=>(h1t1 hb).2) h0t1)<|au<|cE h J (fun h=>?_) (fun h=>?_)
  ·refine aw<|zo J (ez)<|au<|ak<|M ?_;cases so h;exact aF J J
  ·refine dz<|ac<|aw<|zo J (dB)<|au<|ax<|bB ?_;refine aP (pg (Z:=fun n i=>j3 a1 b n i=some R) (Of:=fun i=>[]) (Gf:=fun i=>[(2,bt ah a1),(3,bt ah b),(5,cb i)]) (fun i h=>nn h) (fun n ih i h=>?_) cZ (0:Int) h) (bg J);refine aB<|ac<|aw<|aE J<|zo J (bD io ek J J)<|zo J (bm pr J J)<|zo J (fW nC J)<|zo J (ft J J)<|au<|cE h J (fun h=>?_) (fun h=>?_)
   ·refine dz<|ac<|ax<|ac<|bz h fun e q_e h=>bz h fun e1 q_e1 h=>bz h fun t2 q_t2 h=>?_
    obtain⟨r2,h1t2,h0t2⟩:=og q_t2
    have q_r2g:=fun hb=>(h1t2 hb).1
    refine eu (ts:=[_,_,_,_,_,_,_,_,_,_,_,_,_,_,_,_,_,_,_,_,_,_,_,_,_,_,_,_,_]) mixed J J
     ⟨ef 2 J J J (bD io ek J J),
     ⟨cT 86 0 J J J (bm pr J J),
     ⟨ef 5 J J J (cG J),
     ⟨dG 87 1 88 2 J J J J (iQ nC nX J J J q_e),
     ⟨cT 89 3 J J J (bD rt mX J J),
     ⟨cT 90 4 J J J (bm bA J J),
     ⟨ef 3 J J J (bD io ek J J),
     ⟨cT 92 6 J J J (bm pr J J),
     ⟨ef 5 J J J (cG J),
     ⟨dG 93 7 94 8 J J J J (iQ nC nX J J J q_e1),
     ⟨cT 95 9 J J J (bD rt mX J J),
     ⟨cT 96 10 J J J (bm bA J J),
     ⟨dG 91 5 97 11 J J J J (cF (ht J) (ht J)),
     ⟨cT 98 12 J J J (cG J),
     ⟨oj 2 99 13 J J J J (dx J J J J (fun hg=>bD io ek J J)),
     ⟨gj 100 14 99 13 J J J J (dx J J J J (fun hg=>aI pr J J (aS J hg))),
     ⟨oj 5 99 13 J J J J (dx J J J J (fun hg=>cG J)),
     ⟨sd 101 15 102 16 99 13 J J J J J (dx J J J J (fun hg=>aQ nC nX J (aS J hg) (aS J hg) q_e)),
     ⟨gj 103 17 99 13 J J J J (dx J J J J (fun hg=>d6 wx J qM J (aS J hg))),
     ⟨gj 104 18 99 13 J J J J (dx J J J J (fun hg=>aI eN J J (aS J hg))),
     ⟨oj 3 99 13 J J J J (dx J J J J (fun hg=>bD io ek J J)),
     ⟨gj 106 20 99 13 J J J J (dx J J J J (fun hg=>aI pr J J (aS J hg))),
     ⟨oj 5 99 13 J J J J (dx J J J J (fun hg=>cG J)),
     ⟨sd 107 21 108 22 99 13 J J J J J (dx J J J J (fun hg=>aQ nC nX J (aS J hg) (aS J hg) q_e1)),
     ⟨gj 109 23 99 13 J J J J (dx J J J J (fun hg=>d6 wx J qM J (aS J hg))),
     ⟨gj 110 24 99 13 J J J J (dx J J J J (fun hg=>aI eN J J (aS J hg))),
     ⟨sd 105 19 111 25 99 13 J J J J J (dx J J J J (fun hg=>aC Qa (Hk _ _ (q_r2g hg)) ⟨(aS J hg),(aS J hg),aT⟩)),
     ⟨gj 112 26 99 13 J J J J (dx J J J J (fun hg=>dh (aS J hg))),
     ⟨dG 99 13 113 27 J J J J (dj (ht J) (fun hb=>(aS J (nZ hb))) (fun hb=>(h1t2 hb).2) h0t2),
     aT⟩⟩⟩⟩⟩⟩⟩⟩⟩⟩⟩⟩⟩⟩⟩⟩⟩⟩⟩⟩⟩⟩⟩⟩⟩⟩⟩⟩⟩ ?_
    refine aq<|cE h rfl (fun h=>?_) (fun h=>?_)
    ·refine aw<|zo J (ez)<|au<|ak ?_;refine ay (M (M (ay (M ?_))));cases so h;exact aF J J
    ·refine bk<|an<|aq<|am<|aE rfl<|zo rfl (ei (ht rfl) hI)<|bu rfl<|aJ ?_;exact be (aP (ih (IntKind.i64.wrap (i+(1:Int))) h) (bg J))
   ·refine bp ?_;refine ae (ae (aK ?_));refine aq<|ac<|aw<|zo rfl (dB)<|au<|ax<|bB ?_;refine aP (pg (Z:=fun n1 i1=>jZ a1 b n1 i1=some R) (Of:=fun i1=>[]) (Gf:=fun i1=>[(2,bt ah a1),(3,bt ah b),(6,cb i1)]) (fun i1 h=>nn h) (fun n1 ih1 i1 h=>?_) cZ (0:Int) h) (bg J);refine aB<|ac<|aw<|aE J<|zo J (bD lX gD J J)<|zo J (bm xh J J)<|zo J (fW vS J)<|zo J (ft J J)<|au<|cE h J (fun h=>?_) (fun h=>?_)
    ·refine dz<|ac<|ax<|ac<|bz h fun e2 q_e2 h=>bz h fun e3 q_e3 h=>?_
     refine eu (ts:=[_,_,_,_,_,_,_,_,_,_,_]) mixed J J
      ⟨ef 2 J J J (bD lX gD J J),
      ⟨cT 122 0 J J J (bm xh J J),
      ⟨ef 6 J J J (cG J),
      ⟨dG 123 1 124 2 J J J J (iQ vS yV J J J q_e2),
      ⟨cT 125 3 J J J (bm yV J J),
      ⟨ef 3 J J J (bD lX gD J J),
      ⟨cT 127 5 J J J (bm xh J J),
      ⟨ef 6 J J J (cG J),
      ⟨dG 128 6 129 7 J J J J (iQ vS yV J J J q_e3),
      ⟨cT 130 8 J J J (bm yV J J),
      ⟨dG 126 4 131 9 J J J J (C2 We (ht J) (ht J)),
      aT⟩⟩⟩⟩⟩⟩⟩⟩⟩⟩⟩ ?_
     refine aq<|cE h rfl (fun h=>?_) (fun h=>?_)
     ·refine aw<|zo J (ez)<|au<|ak ?_;refine ay (M (M (ay (M ?_))));cases so h;exact aF J J
     ·refine bk<|an<|aq<|am<|aE rfl<|zo rfl (ei (ht rfl) hI)<|bu rfl<|aJ ?_;exact be (aP (ih1 (IntKind.i64.wrap (i1+(1:Int))) h) (bg J))
    ·refine bp ?_;refine ae (ae (aK ?_));refine aq<|aw<|zo rfl (bD p7 jB rfl rfl)<|zo rfl (bm eN rfl rfl)<|zo rfl (bD p7 jB rfl rfl)<|zo rfl (bm eN rfl rfl)<|bz h fun r3 q_r3 h=>zo J (aC Qa (Hk _ _ q_r3) ⟨(ht J),(ht J),aT⟩)<|aE J<|bz h fun t3 q_t3 h=>bX J J (fun hg=>bD lg fN J J)<|bX J J (fun hg=>aI te J J (aS J hg))<|bX J J (fun hg=>bD lg fN J J)<|bX J J (fun hg=>aI te J J (aS J hg)) ?_
     obtain⟨r4,h1t3,h0t3⟩:=og q_t3
     have q_r4g:=fun hb=>(h1t3 hb).1
     refine bX J J (fun hg=>aC XE (R5 _ _ (q_r4g hg)) ⟨(aS J hg),(aS J hg),aT⟩)<|zo J (cS (ht J) (fun hb=>(aS J hb)) (fun hb=>(h1t3 hb).2) h0t3)<|bu J<|au<|ak ?_;cases so h;exact aF J J

end Go.Proofs.YtnmjbolollcokaaGreatDoor

