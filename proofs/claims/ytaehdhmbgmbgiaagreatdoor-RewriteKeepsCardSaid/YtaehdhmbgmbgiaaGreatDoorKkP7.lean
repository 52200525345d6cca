import Derived.Test.YtaehdhmbgmbgiaaGreatDoorKkT
import Derived.Test.YtaehdhmbgmbgiaaGreatDoorKkP6
set_option linter.all false
namespace Go.Proofs.YtaehdhmbgmbgiaaGreatDoor
open Go Tryz EffOK
set_option maxRecDepth 100000
def U7{rec__:Option (List (Int×(aB->Bool->Option (aB×Int))))}(hr__: ∀{R:(List (Int×(aB->Bool->Option (aB×Int))))},rec__=some R->bZ aP 68 [] (KN (fun y:(aB->Bool->Option (aB×Int))=>zw aP Hk Hl (fun(x:aB×Bool)=>y x.1 x.2)) qh R)) t by1 deep{R}(h:dE rec__ t by1 deep=some R):bZ aP 232 [Q aN t,cy (ap) by1,iF deep] (tT [Q aN R.1,iF R.2]):=by
 refine cx func232 Y<|aQ<|cg Y<|ax cq iN Y fun b=>ck<|bI<|bc<|bj Y<|ca qp Y<|dA Y<|cn h Y (fun h=>?_) (fun h=>?_)
 ·exact aQ<|bq cq Y<|aW cq af Y<|ck<|cX<|am<|aF 6 Y<|so h▸br Y Y ⟨aU cq Y Y Y,aL Y,Z⟩
 ·refine iq<|aD Y<|cC h afK (WJ _) (bN Y) fun r h=>bj Y<|bL Y Y<|bL Y Y<|ax bR dQ Y fun b1=>aW bR af Y<|aA 8 Y<|aS Y<|aQ<|bq bR Y<|T (bW (y:=(⟨3,0,0,0,[],false,r.1,[],[],[],[],0⟩:ai)) fL SS lk (⟨_,_,_,_,_,Y,sf,Y,hI,⟨_,_,_,_,_,Y,se,Y,(J Y),Y⟩⟩))<|bq cq Y<|T (aK (r:=aN) (ys:=[t]) (xs:=[.tmp 24]) uh cq Y Y Y Y Y ⟨(J Y),Z⟩)<|cC h abm (Mn _ _) (bN Y) fun r1 h=>?_;refine bj Y<|bL Y Y<|bL Y Y<|ax cq iN Y fun b2=>aW cq af Y<|aA 10 Y<|aS Y<|bc<|bj Y<|bj Y<|bk Y (fa Y)<|i9 Y<|cn h Y (fun h=>?_) (fun h=>?_)
  ·exact aQ<|bq cq Y<|cC h ajy (afs hr__ _) (bN Y) fun r2 h=>bL Y Y<|bL Y Y<|aW cq af Y<|bf Y<|am<|aF 6 Y<|so h▸br Y Y ⟨aU cq Y Y Y,aL Y,Z⟩
  ·exact iq<|aQ<|bq cq Y<|bj Y<|aW cq af Y<|bf Y<|aF 6 Y<|so h▸br Y Y ⟨aU cq Y Y Y,aL Y,Z⟩
def aaL l{R}(h:o6 l=some R):bZ aP 36 [Q aX l] (tT [oA R.1,bS R.2]):=by
 refine cx func36 Y<|aQ<|cg Y<|kq cM<|bU<|bI<|aQ<|bq dC Y<|cC h aie (U4 _) (bN Y) fun r h=>bj Y<|bL Y Y<|bL Y Y<|bL Y Y<|iH Y<|iH Y<|aS Y<|aC<|aC ?_;refine aG<|bj Y<|T (jj (J Y))<|cn h Y (fun h=>?_) (fun h=>?_)
 ·exact aQ<|kq cM<|dd<|am<|so h▸dM Y Y Y
 ·exact iq<|aD Y<|T (PU (J Y))<|bX qG Qp yK Y<|bj Y<|cj h fun e i_ h=>d8 An fS Y i_<|pz h abl (Qv _) (bN Y) fun r1 h l1 c=>iH Y<|dd<|mK<|dn 2 Y<|dn 22 Y<|mL 2 Y<|aO<|so h▸dM Y Y Y
def ahF{rec__:Option (List (Int×(aB->Bool->Option (aB×Int))))}(hr__: ∀{R:(List (Int×(aB->Bool->Option (aB×Int))))},rec__=some R->bZ aP 68 [] (KN (fun y:(aB->Bool->Option (aB×Int))=>zw aP Hk Hl (fun(x:aB×Bool)=>y x.1 x.2)) qh R)) t deep{R}(h:jF rec__ t deep=some R):bZ aP 171 [Q aN t,iF deep] (tT [Q aN R.1,bS R.2]):=by
 refine cx func171 Y<|aQ<|cg Y<|ax cq iN Y fun b=>bU<|bI<|aQ<|bX rt lL Cd Y<|cj h fun e i_ h=>T (bn uh cq Y (J Y) hI i_)<|bq cq Y<|ax cq iN Y fun b1=>aW cq af Y<|aA 6 Y<|bI<|aQ<|bX rt lL Cd Y ?_;refine cj h fun e1 Y' h=>T (bn uh cq Y (J Y) hI Y')<|bX HS yx dC Y<|cC h ajz (aaL _) (bN Y) fun r h=>bj Y<|bL Y Y<|bL Y Y<|iH Y<|aS Y<|aQ<|vh m9 gR Y<|bX oV i7 bR Y<|bj Y<|ca iG Y<|vh m9 gR Y<|bX Fq ww Na Y<|cj h fun r1 a_ h=>?_;refine T (bG ajS (adn _ _ _ a_) ⟨(J Y),(J Y),(J Y),Z⟩)<|ax (r:=Zd) (x:=(List.replicate 3 [])) N4 (fun _=>ME (r:=EV) 3 (fun _=>⟨none,0,Y,kG _,nh _,.inl Y⟩) _) Y fun b2=>aW N4 af Y<|aA 9 Y<|bI<|bc<|cj h fun e2 b_ h=>T (rf Cp lT Y (J Y) hI b_)<|bq lT Y<|ca qp Y<|cj h fun e3 e_ h=>T (rf Cp lT Y (J Y) hI e_)<|bq lT Y<|ca qp Y<|T (mC (J Y) (J Y))<|dA Y<|cn h Y (fun h=>?_) (fun h=>?_)
 ·exact aQ<|bq cq Y<|aW cq af Y<|dd<|am<|aF 4 Y<|so h▸br Y Y ⟨aU cq Y Y Y,aL Y,Z⟩
 ·refine iq<|aQ<|bJ false aN 87<|T (bu tK)<|bI<|bc<|bX rt lL Cd Y<|ca uh Y<|T (bQ hI)<|bI<|an<|bm (k:=49) Y fun hN=>bM ?_;refine aI (qe (ay:=fun ls i parts l c x=>(e.parts.drop i=ls)/\j4 rec__ t deep e r1 ls i parts x=some R) (Of:=fun _ i parts l c x=>[eV aN 87 l c parts,bx aN 87 b x]) (Gf:=fun _ i parts l c x=>[(1,iF deep),(2,bH aN t),(4,tV (aE b 0)),(6,bH aN e),(9,bH Zd r1),(10,rr l c parts),(49,cy (aN) e.parts),(50,iQ e.parts),(51,bS (i:Int))]) (fun i parts l c x h=>?_) (fun e4 tl ih i parts l c x h=>?_) e.parts 0 Rq none 0 He ⟨Y,h⟩) (bA Y)
  ·obtain⟨V,h⟩:=h;refine dq V Y<|aw<|aQ<|vh m9 gR Y<|bX Fq ww Na Y<|vh m9 gR Y<|bX oV i7 bR Y<|T (bW (y:=(⟨2,0,0,0,[],e.root.Left,e.root.J',[],[],[],[],0⟩:ai)) fL SS lk (⟨_,_,_,_,_,Y,sf,Y,hI,⟨_,_,_,_,_,Y,K0,Y,(J Y),⟨_,_,_,_,_,Y,se,Y,(J Y),Y⟩⟩⟩))<|bj Y<|gk ?_;refine gW 10 Y<|gW 81 Y<|cC h abm (Mn _ _) ⟨(J Y),(kX (J Y)),Z⟩ fun r2 h=>bj Y<|bL Y Y<|bL Y Y<|ax cq iN Y fun b3=>aW cq af Y<|aA 15 Y<|aS Y<|bc<|bj Y<|T (jj (J Y))<|cn h Y (fun h=>?_) (fun h=>?_)
   ·exact aQ<|bq cq Y<|bo<|aW cq af Y<|dd<|am<|aF 4 Y<|aO<|so h▸br Y Y ⟨aU cq Y Y Y,aL Y,Z⟩
   ·exact iq<|aQ<|bq cq Y<|cj h fun e5 p_ h=>T (rf Cp lT Y (J Y) hI p_)<|bq lT Y<|cC h abn (U7 hr__ _ _ _) (bN Y) fun r3 h=>bL Y Y<|bL Y Y<|cC h abr (QA _ _) (bN Y) fun r4 h=>bL Y Y<|bL Y Y<|bo<|aW cq af Y<|bf Y<|aF 4 Y<|aO<|so h▸br Y Y ⟨aU cq Y Y Y,aL Y,Z⟩
  ·obtain⟨V,h⟩:=h;refine dp V Y<|aC<|an<|aD Y<|d8 uh cq Y (de V)<|ax cq iN Y fun b4=>iH Y<|aW cq af Y<|aA 12 Y<|bI<|aC ?_;refine cj h fun e6 u_ h=>cj h fun r5 O_ h=>?_;refine jQ 11 [tc (Q aN e4),tc (bS (i:Int)),tc (bH EV e6),tc (cy (ap) e6),tc (iF deep),tc (tT [Q aN r5.1,iF r5.2]),tc (tT [Q aN r5.1,iF r5.2]),tc (Q aN r5.1),tc (iF r5.2),([9],fun s=>tV (aE ((s.getD 0 tA).h 0).2 0)),tc (Bf)] [false,false,false,false,false,false,false,false,false,true,true] [([],fun _=>[eV aN 87 l c parts,bx aN 87 b x]),([9],fun sg=>[bx aN 87 ((sg 9).h 0).2 He,eV aN 87 l c parts,bx aN 87 b x]),([9,10],fun sg=>[bx aN 87 ((sg 9).h 0).2 r5.1,eV aN 87 l c parts,bx aN 87 b x])] (fun _=>Y) mixed Y Y Y Y
    ⟨⟨[⟨12,fun _=>bH aN e4,none⟩],_,[[],[9]],Y,⟨(fun _=>Y),Z⟩,Y,Y,Y,Y,Y,⟨fun sg=>ae Y (np cq Y Y),fun sg=>ae Y (np cq Y Y),Z⟩⟩,
    ⟨⟨[⟨11,fun _=>Q cM (i:Int),none⟩],_,[[],[9]],Y,⟨(fun _=>Y),Z⟩,Y,Y,Y,Y,Y,⟨fun sg=>ae Y (l0 Y),fun sg=>ae Y (l0 Y),Z⟩⟩,
    ⟨⟨[⟨9,fun _=>bH Zd r1,none⟩,⟨58,fun _=>Q cM (i:Int),some 1⟩],_,[[],[9]],Y,⟨(fun _=>Y),(fun _=>Y),Z⟩,Y,Y,Y,Y,Y,⟨fun sg=>ae Y (rf Cp lT Y (J Y) (J Y) u_),fun sg=>ae Y (rf Cp lT Y (J Y) (J Y) u_),Z⟩⟩,
    ⟨⟨[⟨59,fun _=>bH EV e6,some 2⟩],_,[[],[9]],Y,⟨(fun _=>Y),Z⟩,Y,Y,Y,Y,Y,⟨fun sg=>ae Y (np lT Y Y),fun sg=>ae Y (np lT Y Y),Z⟩⟩,
    ⟨⟨[⟨1,fun _=>Q rB deep,none⟩],_,[[],[9]],Y,⟨(fun _=>Y),Z⟩,Y,Y,Y,Y,Y,⟨fun sg=>ae Y (l0 Y),fun sg=>ae Y (l0 Y),Z⟩⟩,
    ⟨⟨[⟨57,fun _=>Q aN e4,some 0⟩,⟨60,fun _=>Q EV e6,some 3⟩,⟨61,fun _=>Q rB deep,some 4⟩],_,[[],[9]],Y,⟨(fun _=>Y),(fun _=>Y),(fun _=>Y),Z⟩,Y,Y,Y,Y,Y,⟨fun sg=>ae Y (bG abn (U7 hr__ _ _ _ O_) ⟨(J Y),(J Y),(J Y),Z⟩),fun sg=>ae Y (bG abn (U7 hr__ _ _ _ O_) ⟨(J Y),(J Y),(J Y),Z⟩),Z⟩⟩,
    ⟨⟨[⟨62,fun _=>tT [Q aN r5.1,Q rB r5.2],some 5⟩],_,[[],[9]],Y,⟨(fun _=>Y),Z⟩,Y,Y,Y,Y,Y,⟨fun sg=>ae Y (l0 Y),fun sg=>ae Y (l0 Y),Z⟩⟩,
    ⟨⟨[⟨56,fun _=>tT [Q aN r5.1,Q rB r5.2],some 6⟩],_,[[],[9]],Y,⟨(fun _=>Y),Z⟩,Y,Y,Y,Y,Y,⟨fun sg=>ae Y (yi Y Y),fun sg=>ae Y (yi Y Y),Z⟩⟩,
    ⟨⟨[⟨56,fun _=>tT [Q aN r5.1,Q rB r5.2],some 6⟩],_,[[],[9],[9,10]],Y,⟨(fun _=>Y),Z⟩,Y,Y,Y,Y,Y,⟨fun sg=>ae Y (yi Y Y),fun sg=>ae Y (yi Y Y),fun sg=>ae Y (yi Y Y),Z⟩⟩,
    ⟨⟨[],_,[([],[9])],Y,Z,Y,Y,Y,Y,Y,⟨fun sg=>cw Y (kQ cq iN),Z⟩⟩,
    ⟨⟨[⟨13,fun sg=>tV (aE ((sg 9).h 0).2 0),some 9⟩,⟨63,fun _=>Q aN r5.1,some 7⟩],_,[([9],[9,10])],Y,⟨(fun _=>Y),(fun _=>Y),Z⟩,Y,Y,Y,Y,Y,⟨fun sg=>cw Y (jY cq Y (vq af) Y (J Y) (J Y)),Z⟩⟩,
    Z⟩⟩⟩⟩⟩⟩⟩⟩⟩⟩⟩ (fun sg=>?_)
   refine(show RG _ _ _ _ [_,_,_] _ from ?_);refine aA 13 Y<|aS Y<|bc<|bj Y<|T (jj (J Y))<|cn h Y (fun h=>?_) (fun h=>?_)
   ·exact aQ<|bq cq Y<|bo<|aW cq af Y<|dd<|am<|cR<|am<|cR<|aF 4 Y<|aO<|so h▸br Y Y ⟨aU cq Y Y Y,aL Y,Z⟩
   ·refine iq<|aG<|bj Y<|bq cq Y<|T (aK (r:=aN) (ys:=[r5.1]) (xs:=[.tmp 69]) uh cq Y Y Y Y Y ⟨(J Y),Z⟩)<|cj h fun parts1 N_ h=>cD cq Y Y Y Y uh Y Y (J Y) (J Y) N_ fun l1 c1=>iH Y<|bD<|cV V hN Y ?_;exact bg (aI (ih (i+1) parts1 l1 c1 x ⟨cJ V,h⟩) (bA Y))
def Ke b{R}(h:pg b=some R):bZ aP 135 [iF b] (Q ah R):=by
 refine cx func135 Y<|aQ<|ax aT bK Y fun b1=>bI<|aQ<|T (bW (y:=(⟨1,0,0,[]⟩:ac)) aT wu bK (⟨_,_,_,_,_,Y,sd,Y,hI,Y⟩))<|ax aT bK Y fun b2=>aW aT af Y<|bI ?_;refine j8 (ay:=fun v=>zY v=some R) (Of:=fun v=>[bx ah 72 b1 tL,bx ah 72 b2 v]) (Gf:=fun v=>[(2,tV (aE b1 0)),(3,tV (aE b2 0))]) (fun v h=>?_) (fun K=>?_)
 ·skip;exact aQ<|T (bP aT Y Y bT (.tail _ (.head _)) (J Y))<|aW aT af Y<|aA 2 Y<|cX<|aO<|so h▸iM Y aT Y Y Y
 ·skip;refine aD Y<|cn h Y (fun h=>?_) (fun h=>?_)
  ·refine aG<|cL 1 ru Y<|dc PC Y ul Y (J Y) hI<|bD<|bv ?_;exact cQ (K (ac.mk 1 1 0 []) h) (bA Y)
  ·refine bO<|bv ?_;exact cQ (K (⟨1,0,0,[]⟩:ac) h) (bA Y)
def ahT{rec__:Option (List (Int×(aB->Bool->Option (aB×Int))))}(hr__: ∀{R:(List (Int×(aB->Bool->Option (aB×Int))))},rec__=some R->bZ aP 68 [] (KN (fun y:(aB->Bool->Option (aB×Int))=>zw aP Hk Hl (fun(x:aB×Bool)=>y x.1 x.2)) qh R)) t deep{R}(h:fH rec__ t deep=some R):bZ aP 114 [Q aN t,iF deep] (tT [Q aN R.1,bS R.2]):=by
 refine cx func114 Y<|aQ<|cg Y<|ax cq iN Y fun b=>bU<|bI<|aC<|cj h fun e i_ h=>?_;refine jQ 10 [tc (bH aq t.root),tc (bH ap t.root.J'),tc (Q ap t.root.J'),tc (bH Nh t.parts),tc (cy (aN) t.parts),tc (bH aN e),tc (Q aN e),([7],fun s=>tV (aE ((s.getD 0 tA).h 0).2 0)),([8],fun s=>tV (aE ((s.getD 0 tA).h 0).2 0)),tc (Bf)] [false,false,false,false,false,false,false,true,true,true] [([],fun _=>[bx aN 87 b He]),([7],fun sg=>[bx ap 47 ((sg 7).h 0).2 tB,bx aN 87 b He]),([8],fun sg=>[bx aN 87 ((sg 8).h 0).2 He,bx aN 87 b He]),([7,8],fun sg=>[bx aN 87 ((sg 8).h 0).2 He,bx ap 47 ((sg 7).h 0).2 tB,bx aN 87 b He]),([7,8,9],fun sg=>[bx ap 47 ((sg 7).h 0).2 t.root.J',bx aN 87 ((sg 8).h 0).2 He,bx aN 87 b He])] (fun _=>Y) mixed Y Y Y Y
  ⟨⟨[⟨2,fun _=>bH aN t,none⟩],_,[[],[7],[8],[7,8]],Y,⟨(fun _=>Y),Z⟩,Y,Y,Y,Y,Y,⟨fun sg=>ae Y (mW m9 gR Y Y),fun sg=>ae Y (mW m9 gR Y Y),fun sg=>ae Y (mW m9 gR Y Y),fun sg=>ae Y (mW m9 gR Y Y),Z⟩⟩,
  ⟨⟨[⟨11,fun _=>bH aq t.root,some 0⟩],_,[[],[7],[8],[7,8]],Y,⟨(fun _=>Y),Z⟩,Y,Y,Y,Y,Y,⟨fun sg=>ae Y (mW oV i7 Y Y),fun sg=>ae Y (mW oV i7 Y Y),fun sg=>ae Y (mW oV i7 Y Y),fun sg=>ae Y (mW oV i7 Y Y),Z⟩⟩,
  ⟨⟨[⟨12,fun _=>bH ap t.root.J',some 1⟩],_,[[],[7],[8],[7,8]],Y,⟨(fun _=>Y),Z⟩,Y,Y,Y,Y,Y,⟨fun sg=>ae Y (np bR Y Y),fun sg=>ae Y (np bR Y Y),fun sg=>ae Y (np bR Y Y),fun sg=>ae Y (np bR Y Y),Z⟩⟩,
  ⟨⟨[⟨2,fun _=>bH aN t,none⟩],_,[[],[7],[8],[7,8],[7,8,9]],Y,⟨(fun _=>Y),Z⟩,Y,Y,Y,Y,Y,⟨fun sg=>ae Y (mW rt lL Y Y),fun sg=>ae Y (mW rt lL Y Y),fun sg=>ae Y (mW rt lL Y Y),fun sg=>ae Y (mW rt lL Y Y),fun sg=>ae Y (mW rt lL Y Y),Z⟩⟩,
  ⟨⟨[⟨14,fun _=>bH Nh t.parts,some 3⟩],_,[[],[7],[8],[7,8],[7,8,9]],Y,⟨(fun _=>Y),Z⟩,Y,Y,Y,Y,Y,⟨fun sg=>ae Y (np Cd Y Y),fun sg=>ae Y (np Cd Y Y),fun sg=>ae Y (np Cd Y Y),fun sg=>ae Y (np Cd Y Y),fun sg=>ae Y (np Cd Y Y),Z⟩⟩,
  ⟨⟨[⟨15,fun _=>Q Nh t.parts,some 4⟩],_,[[],[7],[8],[7,8],[7,8,9]],Y,⟨(fun _=>Y),Z⟩,Y,Y,Y,Y,Y,⟨fun sg=>ae Y (bn uh cq Y (J Y) hI i_),fun sg=>ae Y (bn uh cq Y (J Y) hI i_),fun sg=>ae Y (bn uh cq Y (J Y) hI i_),fun sg=>ae Y (bn uh cq Y (J Y) hI i_),fun sg=>ae Y (bn uh cq Y (J Y) hI i_),Z⟩⟩,
  ⟨⟨[⟨16,fun _=>bH aN e,some 5⟩],_,[[],[7],[8],[7,8],[7,8,9]],Y,⟨(fun _=>Y),Z⟩,Y,Y,Y,Y,Y,⟨fun sg=>ae Y (np cq Y Y),fun sg=>ae Y (np cq Y Y),fun sg=>ae Y (np cq Y Y),fun sg=>ae Y (np cq Y Y),fun sg=>ae Y (np cq Y Y),Z⟩⟩,
  ⟨⟨[],_,[([],[7]),([8],[7,8])],Y,Z,Y,Y,Y,Y,Y,⟨fun sg=>cw Y (kQ bR dQ),fun sg=>cw Y (post_imp (post:=fun x__=>(fun(sg:Nat->OI)=>[bx ap 47 ((sg 7).h 0).2 tB,bx aN 87 ((sg 8).h 0).2 He,bx aN 87 b He]) (upd sg 7 x__)) (kQ bR dQ) (fun h=>dW.pick [1,0,2] Y h)),Z⟩⟩,
  ⟨⟨[],_,[([],[8]),([7],[7,8])],Y,Z,Y,Y,Y,Y,Y,⟨fun sg=>cw Y (kQ cq iN),fun sg=>cw Y (kQ cq iN),Z⟩⟩,
  ⟨⟨[⟨6,fun sg=>tV (aE ((sg 7).h 0).2 0),some 7⟩,⟨13,fun _=>Q ap t.root.J',some 2⟩],_,[([7,8],[7,8,9])],Y,⟨(fun _=>Y),(fun _=>Y),Z⟩,Y,Y,Y,Y,Y,⟨fun sg=>cw Y (fr1 (jY bR Y (vq af) Y (J Y) (J Y))),Z⟩⟩,
  Z⟩⟩⟩⟩⟩⟩⟩⟩⟩⟩ (fun sg=>?_)
 refine(show RG _ _ _ _ [_,_,_] _ from ?_);refine aA 6 Y<|aW cq af Y<|aA 7 Y<|bI<|aQ<|bq bR Y<|cC h abs (QB _) (bN Y) fun r h=>aS Y<|aC<|an<|aC<|cj h fun t1 V_ h=>?_;obtain⟨e1,o_,G_⟩:=og V_;have I_:=fun H=>(o_ H).1;obtain⟨r1,o_⟩:=og2 (fun H=>(o_ H).2);have k_:=fun H=>(o_ H).1;refine nQ (ts:=[_,_,_,_,_,_,_,_,_,_,_,_,_,_]) mixed Y Y
  ⟨oq 6 Y Y (mW fh dV Y Y),
  ⟨fm 0 nH Y Y,
  ⟨dy 22 1 Y Y (XN j6 Y),
  ⟨dy 23 2 Y Y (zei Y),
  ⟨dy 24 3 Y Y (l0 Y),
  ⟨ui 6 25 4 Y Y Y (cP Y Y Y Y (fun hg=>mW fh dV Y Y)),
  ⟨jN 26 5 25 4 Y Y Y (cP Y Y Y Y (fun hg=>gO nH Y Y (db Y hg))),
  ⟨jN 27 6 25 4 Y Y Y (cP Y Y Y Y (fun hg=>bn j6 dF Y (db Y hg) hI (I_ hg))),
  ⟨jN 28 7 25 4 Y Y Y (cP Y Y Y Y (fun hg=>nT BE Y pn Y (db Y hg))),
  ⟨jN 29 8 25 4 Y Y Y (cP Y Y Y Y (fun hg=>gO aT Y Y (db Y hg))),
  ⟨zes 25 4 Y Y (cP Y Y Y Y (fun hg=>bG Xg (Ke _ (k_ hg)) ⟨hB,Z⟩)),
  ⟨zu 30 9 31 10 25 4 Y Y Y Y (cP Y Y Y Y (fun hg=>Gx Vb (db Y hg) (db Y hg))),
  ⟨dX 25 4 32 11 Y Y Y (ee (J Y) (fun H=>(db Y H)) (fun H=>(o_ H).2) G_),
  ⟨dy 33 12 Y Y (Aj Y),
  Z⟩⟩⟩⟩⟩⟩⟩⟩⟩⟩⟩⟩⟩⟩ ?_
 refine aw<|px h Y (fun h=>?_) (fun h=>?_)
 ·exact aQ<|bq cq Y<|aW cq af Y<|dd<|cR<|aF 4 Y<|so h▸br Y Y ⟨aU cq Y Y Y,aL Y,Z⟩
 ·refine aQ<|vh m9 gR Y<|bX qF iD cz Y<|dA Y<|bj Y<|bk Y (fa Y)<|i9 Y<|aS Y<|px h Y (fun h=>?_) (fun h=>?_)
  ·refine aQ<|vh m9 gR Y<|bX oV i7 bR Y<|bq bR Y<|T (aK (r:=ap) (ys:=[e.root.J',t.root.J']) (xs:=[.tmp 46,.tmp 47]) qp bR Y Y Y Y Y ⟨(J Y),(J Y),Z⟩)<|cC h afK (WJ _) (bN Y) fun r2 h=>bj Y<|bL Y Y<|bL Y Y<|ax bR dQ Y fun b1=>aW bR af Y<|aA 9 Y<|aS Y<|bc<|bj Y<|gw Y<|bD ?_;refine aw<|px h Y (fun h=>?_) (fun h=>?_)
   ·exact aQ<|bq cq Y<|aW cq af Y<|dd<|am<|cR<|aF 4 Y<|so h▸br Y Y ⟨aU cq Y Y Y,aL Y,Z⟩
   ·refine iq<|aC<|cj h fun e2 b_ h=>cj h fun r3 v_ h=>cj h fun r4 x_ h=>?_;refine Cb 13 (ts:=[Q ap r2.1,Q aq (⟨3,0,0,0,[],false,r2.1,[],[],[],[],0⟩:ai),bH Nh e.parts,cy (aN) e.parts,bH aN e2,Q aN e2,cy (aN) ([e2]),tT [Q aN r3.1,iF r3.2],Q aN r3.1,iF r3.2,tT [Q aN r4.1,bS r4.2],Q aN r4.1,bS r4.2]) mixed Y Y Y
     ⟨oq 9 Y Y (np bR Y Y),
     ⟨dy 55 0 Y Y (bW (y:=(⟨3,0,0,0,[],false,r2.1,[],[],[],[],0⟩:ai)) fL SS lk (⟨_,_,_,_,_,Y,sf,Y,hI,⟨_,_,_,_,_,Y,se,Y,(J Y),Y⟩⟩)),
     ⟨oq 7 Y Y (mW rt lL Y Y),
     ⟨fm 2 Cd Y Y,
     ⟨dy 58 3 Y Y (bn uh cq Y (J Y) hI b_),
     ⟨fm 4 cq Y Y,
     ⟨dy 60 5 Y Y (aK (r:=aN) (ys:=[e2]) (xs:=[.tmp 60]) uh cq Y Y Y Y Y ⟨(J Y),Z⟩),
     ⟨dX 56 1 61 6 Y Y Y (bG abm (Mn _ _ v_) ⟨(J Y),(J Y),Z⟩),
     ⟨dy 62 7 Y Y (yi Y Y),
     ⟨dy 62 7 Y Y (yi Y Y),
     ⟨dX 63 8 64 9 Y Y Y (bG abr (QA _ _ x_) ⟨(J Y),(J Y),Z⟩),
     ⟨dy 65 10 Y Y (yi Y Y),
     ⟨dy 65 10 Y Y (yi Y Y),
     Z⟩⟩⟩⟩⟩⟩⟩⟩⟩⟩⟩⟩⟩ ?_
    exact aW cq af Y<|bf Y<|cR<|aF 4 Y<|so h▸br Y Y ⟨aU cq Y Y Y,aL Y,Z⟩
  ·refine aQ<|vh m9 gR Y<|bX qF iD cz Y<|dA Y<|bj Y<|bk Y (fa Y)<|i9 Y<|bj Y<|cj h fun t2 W_ h=>bk Y (gU m9 gR Y Y)<|bk Y (fun hg=>nT oV Y i7 Y (db Y hg))<|bk Y (gK bR Y Y) ?_;obtain⟨r5,L_,X_⟩:=og W_;have K_:=fun H=>(L_ H).1;refine bk Y (fun hg=>bG abs (QB _ (K_ hg)) ⟨(db Y hg),Z⟩)<|T (ee (J Y) (fun H=>(db Y H)) (fun H=>(L_ H).2) X_)<|aS Y<|px h Y (fun h=>?_) (fun h=>?_)
   ·exact aQ<|bq cq Y<|bj Y<|cC h akr (ahF hr__ _ _) (bN Y) fun r6 h=>bL Y Y<|bL Y Y<|aW cq af Y<|bf Y<|cR<|aF 4 Y<|so h▸br Y Y ⟨aU cq Y Y Y,aL Y,Z⟩
   ·exact bO<|bt<|aw<|aQ<|bq cq Y<|aW cq af Y<|dd<|aF 4 Y<|so h▸br Y Y ⟨aU cq Y Y Y,aL Y,Z⟩
def adm s f{R}(h:kw s f=some R):bZ aP 233 [cy (ap) s,(eD aP abV nG (fun(x:au)=>f x))] (bS R):=by
 refine cx func233 Y<|aQ<|bU<|bI<|bc<|bj Y<|ca qp Y<|T (bQ hI)<|bI<|an<|bm (k:=6) Y fun hN=>bM ?_;refine aI (gG (ay:=fun ls i=>(s.drop i=ls)/\fb f ls i=some R) (Of:=fun _ i=>[]) (Gf:=fun _ i=>[(0,cy (ap) s),(1,(eD aP abV nG (fun(x:au)=>f x))),(7,iQ s),(8,bS (i:Int))]) (fun i h=>?_) (fun e tl ih i h=>?_) s 0 ⟨Y,h⟩) (bA Y)
 ·obtain⟨V,h⟩:=h;exact dq V Y<|aw<|aQ<|dd<|so h▸aM Y Y
 ·obtain⟨V,h⟩:=h;refine dp V Y<|aC<|an<|aD Y<|aS Y<|aD Y<|bj Y<|bj Y<|F7 qp bR Y (de V) ?_;refine bq bR Y<|cj h fun r h_ h=>T (hZ (args:=abV) (res:=F4) (f:=(fun(x:au)=>f x)) (x:=((e):au)) (J Y) h_ ⟨(J Y),Z⟩)<|cn h Y (fun h=>?_) (fun h=>?_)
  ·exact aD Y<|bf Y<|cR<|am<|cR<|so h▸aM Y Y
  ·refine bO<|cV V hN Y ?_;exact bg (aI (ih (i+1) ⟨cJ V,h⟩) (bA Y))
def ad0 s f{R}(h:fc s f=some R):bZ aP 172 [cy (ap) s,(eD aP abV nG (fun(x:au)=>f x))] (iF R):=by
 exact cx func172 Y<|aQ<|ck<|bI<|aD Y<|bj Y<|cC h ajR (adm _ _) (bN Y) fun r h=>T (iZ (J Y) hI)<|bf Y<|so h▸aM Y Y
def adZ e{R}(h:ni e=some R):bZ aP 173 [Q ap e] (iF R):=by
 exact cx func173 Y<|aQ<|cg Y<|ck<|bI<|aQ<|bq bR Y<|cC h abs (QB _) (bN Y) fun r h=>T (jj (J Y))<|bf Y<|so h▸aM Y Y
def aaN(b:Nat)(l:Option Nat)(c:Nat) stack k{R}(h:o9 stack k=some R):dZ aP 267 [bS k,tV (aE b 0)] [bx rV 49 b (aY l c stack.length),eV ap 47 l c stack] (fun i:OI=>cy (ap) R.1) (fun i=>[bx rV 49 b (aY (i.h 0).1 (i.h 0).2 R.2.length),eV ap 47 (i.h 0).1 (i.h 0).2 R.2]):=by
 refine dZ.of func267 Y Y Y fun w0 S0=>aQ<|kq (ap)<|bI<|aQ<|T (ip lT (.head _) (J Y))<|T (ip lT (.head _) (J Y))<|T (fJ qp (.tail _ (.head _)) (J Y))<|bj Y<|T (fq (J Y) (J Y))<|cj h fun y j_ h=>T (qn qp bR Y (.tail _ (.head _)) (J Y) (J Y) j_)<|pe (.tail _ (.head _)) j_ fun hv=>bo<|cj h fun r h_ h=>AW [eV ap 47 l c stack] _ Y afT (ahU j_ h_) ⟨(J Y),Z⟩ Y fun i=>?_;refine(show RG _ _ _ _ [_,_,_] _ from ?_);refine aS Y<|aQ<|T (ip lT (.tail _ (.tail _ (.head _))) (J Y))<|T (ip lT (.tail _ (.tail _ (.head _))) (J Y))<|T (fJ qp (.tail _ (.head _)) (J Y))<|bj Y<|T (fq (J Y) (J Y))<|cj h fun y1 m_ h=>T (m4 qp bR Y (.tail _ (.head _)) (J Y) (J Y) m_)<|bo<|zh m_<|eF<|dc lT Y af Y (J Y) (Hf (J Y))<|bI<|aD Y<|aS Y ?_;exact jm<|aH<|mK<|dn 3 Y<|dn 11 Y<|dn 4 Y<|dn 18 Y<|mL 3 Y<|aO<|bv<|bv<|so h▸nO Y (oi l c) Y Y (fun _ _ h=>h)
def adl e do1{R}(h:oL e do1=some R):bZ aP 234 [Q ap e,(eD aP ab4 abY (fun(x:av×(List au))=>do1 x.1 x.2))] (tT [Q ap R.1,bS R.2]):=by
 refine cx func234 Y<|aQ<|cg Y<|ax bR dQ Y fun b=>bU<|bI<|Ha<|aQ<|bJ false ap 47<|ax (x:=aY none 0 0) lT (fun _=>Hz) Y fun b1=>bI<|aQ<|ax bR dQ Y fun b2=>aA 7 Y<|bI<|aQ<|T (LB (cts:=[tV (aE b1 0)]) (caps:=[.tmp 6]) ⟨(J Y),Z⟩) ?_;refine aS Y<|aQ<|bU<|bI<|aC<|Hb<|aw<|bc<|bX fh dV nH Y<|ca j6 Y<|T (bQ hI)<|bI ?_;refine Il (ay:=fun bad stack l c=>rA bad stack=some R) (Of:=fun bad stack l c=>[bx ap 47 b tB,bx rV 49 b1 (aY l c stack.length),eV ap 47 l c stack]) (Gf:=fun bad stack l c=>[(4,tV (aE b 0)),(6,tV (aE b1 0)),(7,bH ap tB),(9,bS bad)]) (fun bad stack l c h=>?_) (fun K=>?_)
 ·skip;refine aw<|bc<|bj Y<|gw Y<|cn h Y (fun h=>?_) (fun h=>?_)
  ·exact aQ<|bq bR Y<|bj Y<|aW bR af Y<|bf Y<|am<|u5<|aF 4 Y<|aO<|aO<|so h▸br Y Y ⟨aU bR Y Y Y,aL Y,Z⟩
  ·exact iq<|aQ<|T (ip lT (.tail _ (.head _)) (J Y))<|cj h fun e1 Y' h=>T (ce qp bR (.tail _ (.tail _ (.head _))) (J Y) hI Y')<|T (dj (r:=ap) (i:=0) (foff:=0) bR Y Y bT Y (.tail _ (.tail _ (.head _))) Y' (J Y))<|aW bR af Y<|dd<|u5<|aF 4 Y<|aO<|aO<|so h▸br Y Y ⟨aU bR Y Y Y,aL Y,Z⟩
 ·skip;refine bm (k:=16) Y fun hN=>bM<|dm<|dm<|gS ?_;refine aI (qe (ay:=fun ls i bad1 stack1 l1 c1=>(e.j'.drop i=ls)/\gY do1 ls bad1 stack1=some R) (Of:=fun _ i bad1 stack1 l1 c1=>[bx ap 47 b tB,bx rV 49 b1 (aY l1 c1 stack1.length),eV ap 47 l1 c1 stack1]) (Gf:=fun _ i bad1 stack1 l1 c1=>[(1,(eD aP ab4 abY (fun(x:av×(List au))=>do1 x.1 x.2))),(4,tV (aE b 0)),(6,tV (aE b1 0)),(7,bH ap tB),(8,tC 267 [tV (aE b1 0)]),(9,bS bad1),(16,cy (aJ) e.j'),(17,iQ e.j'),(18,bS (i:Int))]) (fun i bad1 stack1 l1 c1 h=>?_) (fun e2 tl ih i bad1 stack1 l1 c1 h=>?_) e.j' 0 0 EW none 0 ⟨Y,h⟩) (bA Y)
  ·obtain⟨V,h⟩:=h;refine dq V Y ?_;exact cQ (K bad1 stack1 l1 c1 h) (bA Y)
  ·obtain⟨V,h⟩:=h;refine dp V Y<|aC<|an<|aQ<|d8 j6 dF Y (de V)<|ax dF mg Y fun b3=>aW dF af Y<|aA 11 Y<|bI<|aC<|cj h fun r h_ h=>cj h fun r1 a_ h=>?_;refine cj h fun r2 d_ h=>?_;refine jQ 13 [tc ((eD aP ab4 abY (fun(x:av×(List au))=>do1 x.1 x.2))),tc (Q aJ e2),tc (tC 267 [tV (aE b1 0)]),tc (bH cM e2.Tag),tc (bS e2.Tag),tc (bS r),tc (cy (ap) r1.1),tc (tT [Q ap r2.1,bS r2.2]),tc (tT [Q ap r2.1,bS r2.2]),tc (Q ap r2.1),tc (bS r2.2),([11],fun s=>tV (aE ((s.getD 0 tA).h 0).2 0)),tc (Bf)] [false,false,false,false,false,false,true,false,false,false,false,true,true] [([],fun _=>[bx ap 47 b tB,bx rV 49 b1 (aY l1 c1 stack1.length),eV ap 47 l1 c1 stack1]),([6],fun sg=>[bx rV 49 b1 (aY ((sg 6).h 0).1 ((sg 6).h 0).2 r1.2.length),eV ap 47 ((sg 6).h 0).1 ((sg 6).h 0).2 r1.2,bx ap 47 b tB]),([11],fun sg=>[bx ap 47 ((sg 11).h 0).2 tB,bx ap 47 b tB,bx rV 49 b1 (aY l1 c1 stack1.length),eV ap 47 l1 c1 stack1]),([6,11],fun sg=>[bx ap 47 ((sg 11).h 0).2 tB,bx rV 49 b1 (aY ((sg 6).h 0).1 ((sg 6).h 0).2 r1.2.length),eV ap 47 ((sg 6).h 0).1 ((sg 6).h 0).2 r1.2,bx ap 47 b tB]),([6,11,12],fun sg=>[bx ap 47 ((sg 11).h 0).2 r2.1,bx rV 49 b1 (aY ((sg 6).h 0).1 ((sg 6).h 0).2 r1.2.length),eV ap 47 ((sg 6).h 0).1 ((sg 6).h 0).2 r1.2,bx ap 47 b tB])] (fun _=>Y) mixed Y Y Y Y
    ⟨⟨[⟨1,fun _=>(eD aP ab6 ab0 (fun(x:av×(List au))=>do1 x.1 x.2)),none⟩],_,[[],[6],[11],[6,11]],Y,⟨(fun _=>Y),Z⟩,Y,Y,Y,Y,Y,⟨fun sg=>ae Y (l0 Y),fun sg=>ae Y (l0 Y),fun sg=>ae Y (l0 Y),fun sg=>ae Y (l0 Y),Z⟩⟩,
    ⟨⟨[⟨11,fun _=>bH aJ e2,none⟩],_,[[],[6],[11],[6,11]],Y,⟨(fun _=>Y),Z⟩,Y,Y,Y,Y,Y,⟨fun sg=>ae Y (np dF Y Y),fun sg=>ae Y (np dF Y Y),fun sg=>ae Y (np dF Y Y),fun sg=>ae Y (np dF Y Y),Z⟩⟩,
    ⟨⟨[⟨8,fun _=>tC 267 [tV (aE b1 0)],none⟩],_,[[],[11]],Y,⟨(fun _=>Y),Z⟩,Y,Y,Y,Y,Y,⟨fun sg=>ae Y (l0 Y),fun sg=>ae Y (l0 Y),Z⟩⟩,
    ⟨⟨[⟨11,fun _=>bH aJ e2,none⟩],_,[[],[11]],Y,⟨(fun _=>Y),Z⟩,Y,Y,Y,Y,Y,⟨fun sg=>ae Y (mW lE fy Y Y),fun sg=>ae Y (mW lE fy Y Y),Z⟩⟩,
    ⟨⟨[⟨26,fun _=>bH cM e2.Tag,some 3⟩],_,[[],[11]],Y,⟨(fun _=>Y),Z⟩,Y,Y,Y,Y,Y,⟨fun sg=>ae Y (np cz Y Y),fun sg=>ae Y (np cz Y Y),Z⟩⟩,
    ⟨⟨[⟨27,fun _=>Q cM e2.Tag,some 4⟩],_,[[],[11]],Y,⟨(fun _=>Y),Z⟩,Y,Y,Y,Y,Y,⟨fun sg=>ae Y (bG O4 (DG _ h_) ⟨(J Y),Z⟩),fun sg=>ae Y (bG O4 (DG _ h_) ⟨(J Y),Z⟩),Z⟩⟩,
    ⟨⟨[⟨25,fun _=>tC 267 [tV (aE b1 0)],some 2⟩,⟨28,fun _=>Q cM r,some 5⟩],_,[([],[6]),([11],[6,11])],Y,⟨(fun _=>Y),(fun _=>Y),Z⟩,Y,Y,Y,Y,Y,⟨fun sg=>cw Y (fr2 (fr2 (AO (xs:=[.tmp 28]) (ts:=[Q cM r]) (cts:=[tV (aE b1 0)]) [bx rV 49 b1 (aY l1 c1 stack1.length),eV ap 47 l1 c1 stack1] _ Y afw (aaN b1 l1 c1 _ _ a_) (J Y) ⟨(J Y),Z⟩ (fun _=>Y)))),fun sg=>cw Y (post_imp (post:=fun x__=>(fun(sg:Nat->OI)=>[bx rV 49 b1 (aY ((sg 6).h 0).1 ((sg 6).h 0).2 r1.2.length),eV ap 47 ((sg 6).h 0).1 ((sg 6).h 0).2 r1.2,bx ap 47 ((sg 11).h 0).2 tB,bx ap 47 b tB]) (upd sg 6 x__)) (fr3 (fr3 (AO (xs:=[.tmp 28]) (ts:=[Q cM r]) (cts:=[tV (aE b1 0)]) [bx rV 49 b1 (aY l1 c1 stack1.length),eV ap 47 l1 c1 stack1] _ Y afw (aaN b1 l1 c1 _ _ a_) (J Y) ⟨(J Y),Z⟩ (fun _=>Y)))) (fun h=>dW.pick [2,0,1,3] Y h)),Z⟩⟩,
    ⟨⟨[⟨23,fun _=>(eD aP ab6 ab0 (fun(x:av×(List au))=>do1 x.1 x.2)),some 0⟩,⟨24,fun _=>Q aJ e2,some 1⟩,⟨29,fun _=>Q EV r1.1,some 6⟩],_,[[6],[6,11]],Y,⟨(fun _=>Y),(fun _=>Y),(fun _=>Y),Z⟩,Y,Y,Y,Y,Y,⟨fun sg=>ae Y (hZ (args:=ab6) (res:=ab0) (f:=(fun(x:av×(List au))=>do1 x.1 x.2)) (x:=((e2,r1.1):av×(List au))) (J Y) d_ ⟨(J Y),(J Y),Z⟩),fun sg=>ae Y (hZ (args:=ab6) (res:=ab0) (f:=(fun(x:av×(List au))=>do1 x.1 x.2)) (x:=((e2,r1.1):av×(List au))) (J Y) d_ ⟨(J Y),(J Y),Z⟩),Z⟩⟩,
    ⟨⟨[⟨30,fun _=>tT [Q ap r2.1,Q cM r2.2],some 7⟩],_,[[6],[6,11]],Y,⟨(fun _=>Y),Z⟩,Y,Y,Y,Y,Y,⟨fun sg=>ae Y (l0 Y),fun sg=>ae Y (l0 Y),Z⟩⟩,
    ⟨⟨[⟨22,fun _=>tT [Q ap r2.1,Q cM r2.2],some 8⟩],_,[[6],[6,11]],Y,⟨(fun _=>Y),Z⟩,Y,Y,Y,Y,Y,⟨fun sg=>ae Y (yi Y Y),fun sg=>ae Y (yi Y Y),Z⟩⟩,
    ⟨⟨[⟨22,fun _=>tT [Q ap r2.1,Q cM r2.2],some 8⟩],_,[[6],[6,11],[6,11,12]],Y,⟨(fun _=>Y),Z⟩,Y,Y,Y,Y,Y,⟨fun sg=>ae Y (yi Y Y),fun sg=>ae Y (yi Y Y),fun sg=>ae Y (yi Y Y),Z⟩⟩,
    ⟨⟨[],_,[([],[11]),([6],[6,11])],Y,Z,Y,Y,Y,Y,Y,⟨fun sg=>cw Y (kQ bR dQ),fun sg=>cw Y (kQ bR dQ),Z⟩⟩,
    ⟨⟨[⟨12,fun sg=>tV (aE ((sg 11).h 0).2 0),some 11⟩,⟨31,fun _=>Q ap r2.1,some 9⟩],_,[([6,11],[6,11,12])],Y,⟨(fun _=>Y),(fun _=>Y),Z⟩,Y,Y,Y,Y,Y,⟨fun sg=>cw Y (jY bR Y (vq af) Y (J Y) (J Y)),Z⟩⟩,
    Z⟩⟩⟩⟩⟩⟩⟩⟩⟩⟩⟩⟩⟩ (fun sg=>?_)
   refine(show RG _ _ _ _ [_,_,_,_] _ from ?_);refine aA 12 Y<|aS Y<|bc<|bj Y<|gw Y<|cn h Y (fun h=>?_) (fun h=>?_)
   ·refine aD Y<|aS Y<|ji<|bh<|cT Y<|bh<|bh<|d5<|bv<|bv<|aH ?_;exact cQ (K r2.2 r1.2 ((sg 6).h 0).1 ((sg 6).h 0).2 h) (bA Y)
   ·refine iq<|aG<|T (ip lT (.head _) (J Y))<|bq bR Y<|T (aK (r:=ap) (ys:=[r2.1]) (xs:=[.tmp 37]) qp bR Y Y Y Y Y ⟨(J Y),Z⟩)<|bo<|cj h fun l2 w_ h=>cD bR Y Y Y Y qp Y Y (J Y) (J Y) w_ fun l3 c2=>bo<|dc lT Y af Y (J Y) (Hf (J Y))<|bD<|cV V hN Y<|bv<|bv<|aH ?_;exact bg (aI (ih (i+1) bad1 l2 l3 c2 ⟨cJ V,h⟩) (bA Y))
