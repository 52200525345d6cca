/- cG of this claim: P9. -/
import Derived.Test.YtmogpgcfognefaaGreatDoorNaT
import Derived.Test.YtmogpgcfognefaaGreatDoorNaP8
set_option linter.all false
namespace Go.Proofs.YtmogpgcfognefaaGreatDoor
open Go
set_option maxRecDepth 100000

theorem JG(e:bo)(left:Int){R:Int×Int×Bool}(h:zJ e left=some R):bg aP 154 [tD be e,ce left] (tT [ce R.1,ce R.2.1,gU R.2.2]):=by
 refine bg.of Tryz.func154 J J J fun w0 S0=>au<|zo J (ms J)<|zo J (fi)<|zo J (fi)<|zo J (fC)<|ap<|ae<|au<|zo J (bC gn J J)<|bO h fun r q_r h=>zo J (aL Kf (AU _ q_r) ⟨(ht J),aY⟩)<|zo J (uz J)<|aA J<|cQ J J (fun hg=>cc fB dc J J)<|cQ J J (fun hg=>aO mt J J (aJ J hg))<|cQ J J (fun hg=>bS ju (aJ J hg))<|cQ J J (fun hg=>dn (aJ J hg) hI)<|zo J (pr J J)<|aA J<|bO h fun t q_t h=>?_;refine cQ J J (fun hg=>cc fB dc J J)<|cQ J J (fun hg=>aO mt J J (aJ J hg)) ?_
 obtain⟨e1,h1t,h0t⟩:=og q_t
 have q_e1g:=fun hb=>(h1t hb).1
 refine cQ J J (fun hg=>cr ju dB J (aJ J hg) hI (q_e1g hg))<|cQ J J (fun hg=>cB jt J eO J (aJ J hg))<|cQ J J (fun hg=>aO bL J J (aJ J hg))<|cQ J J (fun hg=>dn (aJ J hg) hI)<|zo J (eN (ht J) (fun hb=>(aJ J (m6 hb))) (fun hb=>(h1t hb).2) h0t)<|ap<|dN h J (fun h=>?_) (fun h=>?_)
 ·refine au<|zo J (fi)<|zo J (fi)<|zo J (fC)<|ap<|am<|aa ?_;cases so h;exact mQ J J J J
 ·refine eK<|ae<|bO h fun e2 q_e2 h=>bO h fun e3 q_e3 h=>?_
  refine CJ 11 [tc (bz Fm e.Nodes),tc (fE (aR) e.Nodes),tc (bz aR e2),tc (tD aR e2),tc (bz Fm e.Nodes),tc (fE (aR) e.Nodes),tc (bz aR e3),tc (tD aR e3),([8],fun s=>tV (aD ((s.getD 0 rx).h 0).2 0)),([9],fun s=>tV (aD ((s.getD 0 rx).h 0).2 0)),tc (wW)] [false,false,false,false,false,false,false,false,true,true,true] [([],fun _=>[]),([8],fun sg=>[bx aR 149 ((sg 8).h 0).2 CM]),([9],fun sg=>[bx aR 149 ((sg 9).h 0).2 CM]),([8,9],fun sg=>[bx aR 149 ((sg 9).h 0).2 CM,bx aR 149 ((sg 8).h 0).2 CM]),([8,9,10],fun sg=>[bx aR 149 ((sg 8).h 0).2 e2,bx aR 149 ((sg 9).h 0).2 CM])] (fun _=>J) mixed J J J J
   ⟨⟨[⟨2,fun _=>bz be e,none⟩],_,[[],[8],[9],[8,9]],J,⟨(fun _=>J),aY⟩,J,J,J,J,J,⟨fun sg=>ah J (cc fB dc J J),fun sg=>ah J (cc fB dc J J),fun sg=>ah J (cc fB dc J J),fun sg=>ah J (cc fB dc J J),aY⟩⟩,
   ⟨⟨[⟨28,fun _=>bz Fm e.Nodes,some 0⟩],_,[[],[8],[9],[8,9]],J,⟨(fun _=>J),aY⟩,J,J,J,J,J,⟨fun sg=>ah J (bC mt J J),fun sg=>ah J (bC mt J J),fun sg=>ah J (bC mt J J),fun sg=>ah J (bC mt J J),aY⟩⟩,
   ⟨⟨[⟨29,fun _=>tD Fm e.Nodes,some 1⟩],_,[[],[8],[9],[8,9]],J,⟨(fun _=>J),aY⟩,J,J,J,J,J,⟨fun sg=>ah J (cr ju dB J (ht J) hI q_e2),fun sg=>ah J (cr ju dB J (ht J) hI q_e2),fun sg=>ah J (cr ju dB J (ht J) hI q_e2),fun sg=>ah J (cr ju dB J (ht J) hI q_e2),aY⟩⟩,
   ⟨⟨[⟨30,fun _=>bz aR e2,some 2⟩],_,[[],[8],[9],[8,9]],J,⟨(fun _=>J),aY⟩,J,J,J,J,J,⟨fun sg=>ah J (bC dB J J),fun sg=>ah J (bC dB J J),fun sg=>ah J (bC dB J J),fun sg=>ah J (bC dB J J),aY⟩⟩,
   ⟨⟨[⟨2,fun _=>bz be e,none⟩],_,[[],[8],[9],[8,9],[8,9,10]],J,⟨(fun _=>J),aY⟩,J,J,J,J,J,⟨fun sg=>ah J (cc fB dc J J),fun sg=>ah J (cc fB dc J J),fun sg=>ah J (cc fB dc J J),fun sg=>ah J (cc fB dc J J),fun sg=>ah J (cc fB dc J J),aY⟩⟩,
   ⟨⟨[⟨32,fun _=>bz Fm e.Nodes,some 4⟩],_,[[],[8],[9],[8,9],[8,9,10]],J,⟨(fun _=>J),aY⟩,J,J,J,J,J,⟨fun sg=>ah J (bC mt J J),fun sg=>ah J (bC mt J J),fun sg=>ah J (bC mt J J),fun sg=>ah J (bC mt J J),fun sg=>ah J (bC mt J J),aY⟩⟩,
   ⟨⟨[⟨33,fun _=>tD Fm e.Nodes,some 5⟩],_,[[],[8],[9],[8,9],[8,9,10]],J,⟨(fun _=>J),aY⟩,J,J,J,J,J,⟨fun sg=>ah J (cr ju dB J (ht J) hI q_e3),fun sg=>ah J (cr ju dB J (ht J) hI q_e3),fun sg=>ah J (cr ju dB J (ht J) hI q_e3),fun sg=>ah J (cr ju dB J (ht J) hI q_e3),fun sg=>ah J (cr ju dB J (ht J) hI q_e3),aY⟩⟩,
   ⟨⟨[⟨34,fun _=>bz aR e3,some 6⟩],_,[[],[8],[9],[8,9],[8,9,10]],J,⟨(fun _=>J),aY⟩,J,J,J,J,J,⟨fun sg=>ah J (bC dB J J),fun sg=>ah J (bC dB J J),fun sg=>ah J (bC dB J J),fun sg=>ah J (bC dB J J),fun sg=>ah J (bC dB J J),aY⟩⟩,
   ⟨⟨[],_,[([],[8]),([9],[8,9])],J,aY,J,J,J,J,J,⟨fun sg=>dD J (lm (r:=aR) (x:=CM) dB (fun _=>nw _)),fun sg=>dD J (EffOK.post_imp (post:=fun x__=>(fun(sg:Nat→OI)=>[bx aR 149 ((sg 8).h 0).2 CM,bx aR 149 ((sg 9).h 0).2 CM]) (CN sg 8 x__)) (lm (r:=aR) (x:=CM) dB (fun _=>nw _)) (fun h=>dd.pick [1,0] J h)),aY⟩⟩,
   ⟨⟨[],_,[([],[9]),([8],[8,9])],J,aY,J,J,J,J,J,⟨fun sg=>dD J (lm (r:=aR) (x:=CM) dB (fun _=>nw _)),fun sg=>dD J (lm (r:=aR) (x:=CM) dB (fun _=>nw _)),aY⟩⟩,
   ⟨⟨[⟨7,fun sg=>tV (aD ((sg 8).h 0).2 0),some 8⟩,⟨31,fun _=>tD aR e2,some 3⟩],_,[([8,9],[8,9,10])],J,⟨(fun _=>J),(fun _=>J),aY⟩,J,J,J,J,J,⟨fun sg=>dD J (EffOK.fr1 (gR dB J (Li aw) J (ht J) (ht J))),aY⟩⟩,
   aY⟩⟩⟩⟩⟩⟩⟩⟩⟩⟩⟩ (fun sg=>?_)
  refine(show RG _ _ _ _ [bx aR 149 ((sg 8).h 0).2 e2,bx aR 149 ((sg 9).h 0).2 CM] _ from ?_);refine aU 7 J<|aC dB J aw J (ht J) (ht J)<|aU 8 J<|ap<|ae<|au<|zo J (cc jt eO J J)<|zo J (bC bL J J)<|zo J (uz J)<|aA J<|cQ J J (fun hg=>cc jt eO J J)<|cQ J J (fun hg=>aO bL J J (aJ J hg))<|cQ J J (fun hg=>dn (aJ J hg) hI)<|zo J (pr J J)<|ap<|dN h J (fun h=>?_) (fun h=>?_)
  ·refine au<|zo J (fi)<|zo J (fi)<|zo J (fC)<|ap<|am<|aa ?_;cases so h;exact mQ J J J J
  ·refine eK<|ae ?_
   refine eQ (ts:=[_,_,_,_,_,_,_,_,_,_,_,_]) mixed J J
    ⟨ij 7 J J J (cc mJ iz J J),
    ⟨cO 44 0 J J J (bC bL J J),
    ⟨ij 8 J J J (cc mJ iz J J),
    ⟨cO 46 2 J J J (bC bL J J),
    ⟨fG 45 1 47 3 J J J J (lL (ht J) (ht J)),
    ⟨ij 7 J J J (cc mJ iz J J),
    ⟨cO 49 5 J J J (bC bL J J),
    ⟨ij 8 J J J (cc mJ iz J J),
    ⟨cO 51 7 J J J (bC bL J J),
    ⟨fG 50 6 52 8 J J J J (AD (ht J) (ht J)),
    ⟨cO 48 4 J J J (yD J),
    ⟨cO 53 9 J J J (yD J),
    aY⟩⟩⟩⟩⟩⟩⟩⟩⟩⟩⟩⟩ ?_
   refine an<|ae<|au<|aA rfl<|aA rfl<|zo rfl (ek (ht rfl) (ht rfl))<|aA rfl<|cQ rfl rfl (fun hg=>cM J)<|cQ J J (fun hg=>cM J)<|cQ J J (fun hg=>fz (aJ J hg) (aJ J hg))<|zo J (pr J J)<|ap<|dN h J (fun h=>?_) (fun h=>?_)
   ·refine au<|zo J (fi)<|zo J (fi)<|zo J (fC)<|ap<|am<|aa ?_;cases so h;exact mQ J J J J
   ·refine eK<|au<|aA J<|aA J<|aA J<|zo J (gE (ht J) (ht J))<|bv J<|bv J<|zo J (fC)<|ap<|am ?_;cases so h;exact mQ J J J J

theorem LP(n:aF)(a1:bu)(b:bu)(left:Int){R:Bool}(h:vy n a1 b left=some R):bg aP 79 [tD aE n,tD bP a1,tD bP b,ce left] (gU R):=by
 refine bg.of Tryz.func79 J J J fun w0 S0=>au<|zo J (ms J)<|zo J (ms J)<|zo J (ms J)<|zo J (fC)<|ap<|ae<|au<|zo J (cc lu fS J J)<|zo J (bC bL J J)<|zo J (kc J)<|ap<|dN h J (fun h=>?_) (fun h=>?_)
 ·refine au<|zo J (cc lu fS J J)<|zo J (bC bL J J)<|zo J (uz J)<|bv J<|ap<|am<|aa ?_;cases so h;exact aH J J
 ·refine eK<|ae<|au<|zo J (cc lu fS J J)<|zo J (bC bL J J)<|zo J (uz J)<|aA J<|cQ J J (fun hg=>cc lu fS J J)<|cQ J J (fun hg=>aO bL J J (aJ J hg))<|cQ J J (fun hg=>dn (aJ J hg) hI)<|zo J (pr J J)<|aA J<|cQ J J (fun hg=>cc nQ iM J J)<|cQ J J (fun hg=>aO bT J J (aJ J hg))<|cQ J J (fun hg=>bS dr (aJ J hg))<|cQ J J (fun hg=>cc nQ iM J J)<|cQ J J (fun hg=>aO bT J J (aJ J hg))<|cQ J J (fun hg=>bS dr (aJ J hg))<|cQ J J (fun hg=>dn (aJ J hg) (aJ J hg))<|zo J (pr J J)<|aA J<|bO h fun t q_t h=>?_;refine cQ J J (fun hg=>cc sY oI J J)<|cQ J J (fun hg=>aO gn J J (aJ J hg)) ?_
  obtain⟨r,h1t,h0t⟩:=og q_t
  have q_rg:=fun hb=>(h1t hb).1
  refine cQ J J (fun hg=>aL Ov (JH _ (q_rg hg)) ⟨(aJ J hg),aY⟩)<|cQ J J (fun hg=>d9 (aJ J hg))<|zo J (eN (ht J) (fun hb=>(aJ J (m6 hb))) (fun hb=>(h1t hb).2) h0t)<|ap<|dN h J (fun h=>?_) (fun h=>?_)
  ·refine au<|zo J (fC)<|ap<|am<|aa ?_;cases so h;exact aH J J
  ·refine eK<|au<|vO (fun y:Bool=>gU y) BY J fun b1=>bv J<|ap<|ae<|au<|zo J (cc sY oI J J)<|zo J (bC gn J J)<|bO h fun r1 q_r1 h=>jb Ou (HI _ q_r1) ⟨(ht J),aY⟩ J fun l c=>zo J (ee qL (.head _) (ht J))<|zo J (bj hI)<|ap<|av<|gx (.head _) fun hN=>bK ?_;refine aM (jd (Z:=fun ls i held=>(r1.drop i=ls)∧mE a1 b left ls held=some R) (Of:=fun _ i held=>[cu be 45 l c r1,xH (fun y:Bool=>gU y) BY b1 held]) (Gf:=fun _ i held=>[(3,ce left),(5,bz bP a1),(6,bz bP b),(9,tV (lj b1)),(48,oc l c r1),(49,je r1),(50,ce (i:Int))]) (fun i held h=>?_) (fun e tl ih i held h=>?_) r1 0 ([]:List ((Int×Int)×Bool)) ⟨J,h⟩) (bh J)
   ·obtain⟨hx,h⟩:=h
    refine aq<|au<|zo J (fx J J)<|ap<|ae<|br (ht J) (dp hx)<|bk ?_;refine ac (ac (aG ?_));refine an<|ae<|au<|zo rfl (cc nQ iM rfl rfl)<|zo rfl (bC bT rfl rfl)<|zo rfl (jk dr rfl)<|zo rfl (bj hI)<|ap<|av<|aX (k:=68) J fun hN1=>bK<|pc ?_;refine aM (eh (Z:=fun ls1 i1=>(a1.Cols.drop i1=ls1)∧oz b held ls1 i1=some R) (Of:=fun _ i1=>[xH (fun y:Bool=>gU y) BY b1 held]) (Gf:=fun _ i1=>[(5,bz bP a1),(6,bz bP b),(9,tV (lj b1)),(69,je a1.Cols),(70,ce (i1:Int))]) (fun i1 h=>?_) (fun e1 tl1 ih1 i1 h=>?_) a1.Cols 0 ⟨J,h⟩) (bh J)
    ·obtain⟨hx1,h⟩:=h
     refine aq<|au<|zo J (fx J J)<|ap<|ae<|br (ht J) (dp hx1)<|bk ?_;refine ac (ac (aG ?_));refine an<|au<|zo rfl (fC)<|ap<|am<|bl ?_;cases so h;exact aH J J
    ·obtain⟨hx1,h⟩:=h
     refine aq<|au<|zo J (fx J J)<|ap<|ae<|bq (ht J) (dh hx1)<|eK<|ae<|av<|au<|aA J<|bv J<|ap<|ae<|bO h fun e2 q_e2 h=>?_
     refine eQ (ts:=[_,_,_,_,_,_,_,_,_,_,_,_,_,_]) mixed J J
      ⟨ij 9 J J J (cM J),
      ⟨ij 5 J J J (cc nQ iM J J),
      ⟨cO 74 1 J J J (bC bT J J),
      ⟨ij 15 J J J (cM J),
      ⟨fG 75 2 76 3 J J J J (ka dr bL J J J (dy hx1)),
      ⟨cO 77 4 J J J (bC bL J J),
      ⟨ij 6 J J J (cc nQ iM J J),
      ⟨cO 79 6 J J J (bC bT J J),
      ⟨ij 15 J J J (cM J),
      ⟨fG 80 7 81 8 J J J J (ka dr bL J J J q_e2),
      ⟨cO 82 9 J J J (bC bL J J),
      ⟨fG 78 5 83 10 J J J J (mg (r:=bW) (ys:=[e1,e2]) (xs:=[.tmp 78,.tmp 83]) sw bL J tg J J ⟨(ht J),(ht J),aY⟩),
      ⟨fG 73 0 84 11 J J J J (xy (γ:=fun y:Bool=>tD rB y) (z:=false) Tryz.underlying58 (F7 sw kL bL J Gl) zv4 (fun S=>⟨_,J,(fun _=>J) S⟩) (.head _) (ht J) (AJ (ht J))),
      ⟨cO 85 12 J J J (d9 (ht J)),
      aY⟩⟩⟩⟩⟩⟩⟩⟩⟩⟩⟩⟩⟩⟩ ?_
     refine an<|dN h rfl (fun h=>?_) (fun h=>?_)
     ·refine au<|zo J (fC)<|ap<|am ?_;refine aB (aa (aa (aB (aa ?_))));refine bl ?_;cases so h;exact aH J J
     ·refine bD<|al<|an<|ak<|zo rfl (lb (cL hx1 hN1) rfl)<|aA rfl<|aK ?_;exact aW (aM (ih1 (i1+1) ⟨cK hx1,h⟩) (bh J))
   ·obtain⟨hx,h⟩:=h
    refine aq<|au<|zo J (fx J J)<|ap<|ae<|bq (ht J) (dh hx)<|eK<|ae<|av<|au<|zo J (cw qL gn (.head _) (ht J) (ht J) (dy hx))<|zo J (dJ (r:=be) (i:=(i:Int)) (foff:=0) gn J J cH J (.head _) (dy hx) (ht J))<|aZ (r:=be) (x:=uF) gn (fun _=>pS _) J fun b2=>aC gn J aw J (ht J) (ht J)<|aU 11 J<|ap<|au<|zo J (bC gn J J) ?_;refine aA J<|bO h fun r2 q_r2 h=>zo J (aL Ot (JG _ _ q_r2) ⟨(ht J),(ht J),aY⟩)<|aA J<|zo J (lA J J)<|zo J (lA J J)<|zo J (lA J J)<|bv J<|bv J<|bv J<|ap<|au<|aA J<|ap<|dN h J (fun h=>?_) (fun h=>?_)
    ·refine ak<|aA J<|aA J<|aA J<|zo J (mg (r:=bW) (ys:=[r2.1,r2.2.1]) (xs:=[.tmp 63,.tmp 64]) sw bL J tg J J ⟨(ht J),(ht J),aY⟩)<|bM<|E3 (γ:=fun y:Bool=>gU y) Tryz.underlying58 (F7 sw kL bL J Gl) (ht J) (AJ (ht J)) hB<|aK<|al<|an<|ak<|zo rfl (lb (cL hx hN) rfl)<|aA rfl<|aK<|bf ?_;exact aW (aM (ih (i+1) (fA held (k2 ([r2.1,r2.2.1])) true) ⟨cK hx,h⟩) (bh J))
    ·refine bD<|al<|an<|ak<|zo rfl (lb (cL hx hN) rfl)<|aA rfl<|aK ?_;exact aW (aM (ih (i+1) held ⟨cK hx,h⟩) (bh J))

theorem JF(keys:(List Int))(c:Int){R:Bool}(h:oA keys c=some R):bg aP 155 [ce c,bz gz keys] (gU R):=by
 refine bg.of Tryz.func155 J J J fun w0 S0=>au<|zo J (fC)<|ap<|au<|zo J (bC bT J J)<|aA J<|bO h fun r q_r h=>zo J (aL Mg (DB _ _ q_r) ⟨(ht J),(ht J),aY⟩)<|zo J (d9 (ht J))<|bv J<|ap<|am ?_;cases so h;exact aH J J

theorem LO(a1:bu)(keys:(List Int)){R:Bool}(h:tB a1 keys=some R):bg aP 80 [tD bP a1,lx keys] (gU R):=by
 refine bg.of Tryz.func80 J J J fun w0 S0=>au<|zo J (ms J)<|zo J (ms J)<|zo J (fC)<|ap<|au<|zo J (cc lu fS J J)<|zo J (bC bL J J)<|zo J (kc J)<|aA J<|bO h fun t q_t h=>bE J J (fun hg=>cc nQ iM J J)<|bE J J (fun hg=>aO bT J J (aJ J hg))<|bE J J (fun hg=>(show bU _ _ _ _ ((fH aP Ak lZ (fun(x:Int)=>(oA keys) x)))from hY (cts:=[bz gz keys]) (caps:=[.tmp 3]) Oq ⟨(ht J),aY⟩ (fun x y h=>JF _ _ h))) ?_
 obtain⟨r,h1t,h0t⟩:=og q_t
 have q_rg:=fun hb=>(h1t hb).1
 refine bE J J (fun hg=>aL EZ (wD _ _ (q_rg hg)) ⟨(aJ J hg),(aJ J hg),aY⟩)<|bE J J (fun hg=>d9 (aJ J hg))<|zo J (dm (ht J) (fun hb=>(aJ J hb)) (fun hb=>(h1t hb).2) h0t)<|bv J<|ap<|am ?_;cases so h;exact aH J J

theorem LN(s1:(List iC))(s2:(List iC)){R:Bool}(h:ke s1 s2=some R):bg aP 81 [fE (fV) s1,fE (fV) s2] (gU R):=by
 refine bg.of Tryz.func81 J J J fun w0 S0=>au<|zo J (fC)<|ap<|ae<|au<|aA J<|zo J (jk s8 J)<|aA J<|zo J (jk s8 J)<|zo J (dn (ht J) (ht J))<|ap<|dN h J (fun h=>?_) (fun h=>?_)
 ·refine au<|zo J (fC)<|ap<|am<|aa ?_;cases so h;exact aH J J
 ·refine eK<|ae<|au<|aA J<|zo J (jk s8 J)<|zo J (bj hI)<|ap<|av<|aX (k:=11) J fun hN=>bK ?_;refine aM (eh (Z:=fun ls i=>(s1.drop i=ls)∧fU s2 ls i=some R) (Of:=fun _ i=>[]) (Gf:=fun _ i=>[(0,fE (fV) s1),(1,fE (fV) s2),(12,je s1),(13,ce (i:Int))]) (fun i h=>?_) (fun e tl ih i h=>?_) s1 0 ⟨J,h⟩) (bh J)
  ·obtain⟨hx,h⟩:=h
   refine aq<|au<|zo J (fx J J)<|ap<|ae<|br (ht J) (dp hx)<|bk ?_;refine ac (ac (aG ?_));refine an<|au<|zo rfl (fC)<|ap<|am ?_;cases so h;exact aH J J
  ·obtain⟨hx,h⟩:=h
   refine aq<|au<|zo J (fx J J)<|ap<|ae<|bq (ht J) (dh hx)<|eK<|ae<|av<|au<|aA J<|bv J<|ap<|ae<|bO h fun e1 q_e1 h=>?_
   refine eQ (ts:=[_,_,_,_,_,_,_,_,_]) mixed J J
    ⟨ij 0 J J J (cM J),
    ⟨ij 5 J J J (cM J),
    ⟨fG 16 0 17 1 J J J J (ka s8 th J J J (dy hx)),
    ⟨cO 18 2 J J J (bC th J J),
    ⟨ij 1 J J J (cM J),
    ⟨ij 5 J J J (cM J),
    ⟨fG 20 4 21 5 J J J J (ka s8 th J J J q_e1),
    ⟨cO 22 6 J J J (bC th J J),
    ⟨fG 19 3 23 7 J J J J (wr ND (ht J) (ht J)),
    aY⟩⟩⟩⟩⟩⟩⟩⟩⟩ ?_
   refine an<|dN h rfl (fun h=>?_) (fun h=>?_)
   ·refine au<|zo J (fC)<|ap<|am ?_;refine aB (aa (aa (aB (aa ?_))));cases so h;exact aH J J
   ·refine bD<|al<|an<|ak<|zo rfl (lb (cL hx hN) rfl)<|aA rfl<|aK ?_;exact aW (aM (ih (i+1) ⟨cK hx,h⟩) (bh J))

theorem LY(p:(Option bI))(frag:Int)(at1:Int)(l:(List bu)){R:Bool}(h:oB p frag at1 l=some R):bg aP 43 [tD mX p,ce frag,ce at1,fE (bP) l] (gU R):=by
 refine bg.of Tryz.func43 J J J fun w0 S0=>au<|zo J (fC)<|ap<|au<|aA J<|bO h fun p1 q_p1 h=>zo J (ed (ht J) q_p1)<|zo J (cc nr gv J J)<|zo J (cc iF eo J J)<|zo J (bC oM J J)<|aA J<|bO h fun e q_e h=>zo J (ka lP io J J J q_e)<|zo J (bC io J J)<|aZ (r:=bY) (x:=yC) io (fun _=>nj _) J fun b=>aC io J aw J (ht J) (ht J)<|aU 9 J<|ap<|ae ?_;refine ak<|zo J (cc nd iN J J)<|zo J (bC rW J J)<|aA J<|bO h fun e1 q_e1 h=>zo J (ka mp eu J J J q_e1)<|zo J (bC eu J J)<|aZ (r:=aE) (x:=Bh) eu (fun _=>fF _) J fun b1=>aC eu J aw J (ht J) (ht J)<|aU 10 J<|ap ?_;refine zZ (Z:=kD p frag l e e1=some R) (Of:=[]) (Gf:=[(0,tD mX p),(1,ce frag),(3,fE (bP) l),(9,bz bY e),(10,bz aE e1)]) (fun h=>?_) (fun K=>?_)
 ·skip
  refine ae<|au<|zo J (cc sZ na J J)<|zo J (bC bL J J)<|zo J (kc J)<|aA J<|cQ J J (fun hg=>cc rb k7 J J)<|cQ J J (fun hg=>aO bL J J (aJ J hg))<|cQ J J (fun hg=>fz (aJ J hg) hI)<|zo J (pr J J)<|ap<|dN h J (fun h=>?_) (fun h=>?_)
  ·refine au<|zo J (fC)<|ap<|am<|aa ?_;cases so h;exact aH J J
  ·refine eK<|au<|aA J<|zo J (cc rb k7 J J)<|zo J (bC bL J J)<|bO h fun e2 q_e2 h=>zo J (ka rQ er J J J q_e2)<|zo J (bC er J J)<|aZ (r:=bP) (x:=wn) er (fun _=>gK _) J fun b2=>aC er J aw J (ht J) (ht J)<|aU 13 J<|ap<|ae<|au<|zo J (cc hJ cV J J)<|zo J (bC bL J J)<|ap<|av<|ae ?_;refine ak<|zo J (kc J)<|bv J<|ap<|dN h J (fun h=>?_) (fun h=>?_)
   ·refine ae<|bO h fun e3 q_e3 h=>bO h fun p2 q_p2 h=>bO h fun e4 q_e4 h=>bO h fun e5 q_e5 h=>bO h fun r q_r h=>?_
    refine eQ (ts:=[_,_,_,_,_,_,_,_,_,_,_,_,_,_,_,_,_,_,_,_,_]) mixed J J
     ⟨ij 10 J J J (bC eu J J),
     ⟨ij 13 J J J (bC er J J),
     ⟨ij 3 J J J (cM J),
     ⟨ij 10 J J J (cc u4 m9 J J),
     ⟨cO 75 3 J J J (bC bL J J),
     ⟨fG 74 2 76 4 J J J J (ka rQ er J J J q_e3),
     ⟨cO 77 5 J J J (bC er J J),
     ⟨ij 0 J J J (cM J),
     ⟨cO 79 7 J J J (ed (ht J) q_p2),
     ⟨cO 80 8 J J J (cc wy tW J J),
     ⟨cO 81 9 J J J (bC Eg J J),
     ⟨ij 1 J J J (cM J),
     ⟨fG 82 10 83 11 J J J J (ka Tryz.underlying161 yG J J J q_e4),
     ⟨cO 84 12 J J J (bC yG J J),
     ⟨ij 10 J J J (cc rb k7 J J),
     ⟨cO 86 14 J J J (bC bL J J),
     ⟨fG 85 13 87 15 J J J J (ka pR bT J J J q_e5),
     ⟨cO 88 16 J J J (bC bT J J),
     ⟨cO 89 17 J J J (jk dr J),
     ⟨⟨[⟨72,_,some 0⟩,⟨73,_,some 1⟩,⟨78,_,some 6⟩,⟨90,_,some 18⟩],_,J,⟨J,J,J,J,aY⟩,J,J,ah J (aL PL (LP _ _ _ _ q_r) ⟨(ht J),(ht J),(ht J),(ht J),aY⟩)⟩,
     ⟨cO 91 19 J J J (yD J),
     aY⟩⟩⟩⟩⟩⟩⟩⟩⟩⟩⟩⟩⟩⟩⟩⟩⟩⟩⟩⟩⟩ ?_
    refine an<|am ?_;refine aB (aa ?_);cases so h;exact aH J J
   ·refine au<|zo J (kc J)<|bv J<|ap<|dN h J (fun h=>?_) (fun h=>?_)
    ·refine au<|zo J (cc lu fS J J)<|zo J (bC bL J J)<|zo J (uz J)<|aA J<|bO h fun t q_t h=>bE J J (fun hg=>cM J)<|bE J J (fun hg=>cc u4 m9 J J)<|bE J J (fun hg=>aO bL J J (aJ J hg)) ?_
     obtain⟨e6,h1t,h0t⟩:=og q_t
     have q_e6g:=fun hb=>(h1t hb).1
     refine bE J J (fun hg=>cr rQ er J (aJ J hg) (aJ J hg) (q_e6g hg))<|bE J J (fun hg=>cB lu J fS J (aJ J hg))<|bE J J (fun hg=>aO bL J J (aJ J hg))<|bE J J (fun hg=>dn (aJ J hg) hI)<|zo J (dm (ht J) (fun hb=>(aJ J hb)) (fun hb=>(h1t hb).2) h0t)<|bv J<|ap<|am ?_;refine aB (aa ?_);cases so h;exact aH J J
    ·refine gj (Z:=fun x=>kC p frag e e1 e2 x=some R) (Of:=fun x=>[]) (Gf:=fun x=>[(0,tD mX p),(1,ce frag),(9,bz bY e),(10,bz aE e1),(13,bz bP e2),(69,ce e1.Op),(106,gU x)]) (fun x h=>?_) (fun K1=>?_)
     ·skip
      refine dN h J (fun h=>?_) (fun h=>?_)
      ·refine au<|zo J (bC er J J)<|zo J (cc lv fh J J)<|zo J (bC bT J J)<|bO h fun r1 q_r1 h=>zo J (aL PK (LO _ _ q_r1) ⟨(ht J),(ht J),aY⟩)<|bv J<|ap<|am ?_;refine aB (aa ?_);cases so h;exact aH J J
      ·refine au<|zo J (kc J)<|bv J<|ap<|dN h J (fun h=>?_) (fun h=>?_)
       ·refine au<|zo J (cc lu fS J J)<|zo J (bC bL J J)<|zo J (kc J)<|bv J<|ap<|am ?_;refine aB (aa ?_);cases so h;exact aH J J
       ·refine au<|zo J (kc J)<|bv J<|ap<|dN h J (fun h=>?_) (fun h=>?_)
        ·refine au<|zo J (cc lu fS J J)<|zo J (bC bL J J)<|zo J (uz J)<|bv J<|ap<|am ?_;refine aB (aa ?_);cases so h;exact aH J J
        ·refine au<|zo J (kc J)<|bv J<|ap<|dN h J (fun h=>?_) (fun h=>?_)
         ·refine au<|aA J<|aA J<|bO h fun r2 q_r2 h=>zo J (aL NI (HD _ _ q_r2) ⟨(ht J),(ht J),aY⟩)<|aZ (r:=aE) (x:=Bh) eu (fun _=>fF _) J fun b3=>aC eu J aw J (ht J) (ht J)<|aU 14 J<|ap<|au<|zo J (cc lu fS J J)<|zo J (bC bL J J)<|zo J (uz J)<|aA J<|bE J J (fun hg=>cc rf mj J J)<|bE J J (fun hg=>aO bL J J (aJ J hg))<|bE J J (fun hg=>bG (aJ J hg) hI)<|zo J (kM J J)<|aA J<|bE J J (fun hg=>cc hJ cV J J)<|bE J J (fun hg=>aO bL J J (aJ J hg)) ?_;refine bE J J (fun hg=>bG (aJ J hg) hI)<|zo J (kM J J)<|aA J<|bE J J (fun hg=>cc tX nG J J)<|bE J J (fun hg=>aO bL J J (aJ J hg))<|bE J J (fun hg=>cc tX nG J J)<|bE J J (fun hg=>aO bL J J (aJ J hg))<|bE J J (fun hg=>bG (aJ J hg) (aJ J hg))<|zo J (kM J J)<|aA J<|bO h fun t1 q_t1 h=>bE J J (fun hg=>cc qg jN J J)<|bE J J (fun hg=>aO Ap J J (aJ J hg))<|bE J J (fun hg=>cc qg jN J J)<|bE J J (fun hg=>aO Ap J J (aJ J hg)) ?_
          obtain⟨r3,h1t1,h0t1⟩:=og q_t1
          have q_r3g:=fun hb=>(h1t1 hb).1
          refine bE J J (fun hg=>aL PJ (LN _ _ (q_r3g hg)) ⟨(aJ J hg),(aJ J hg),aY⟩)<|zo J (dm (ht J) (fun hb=>(aJ J hb)) (fun hb=>(h1t1 hb).2) h0t1)<|bv J<|ap<|am ?_;refine aB (aa ?_);cases so h;exact aH J J
         ·refine bD<|al<|an<|au<|zo rfl (fC)<|ap<|am ?_;cases so h;exact aH J J
     ·skip
      refine au<|zo J (kc J)<|bv J<|ap<|dN h J (fun h=>?_) (fun h=>?_)
      ·refine bD ?_;exact cg (K1 (e1.Op==(4:Int)) h) (bh J)
      ·refine ak<|zo J (kc J)<|bv J<|aK ?_;exact cg (K1 (e1.Op==(11:Int)) h) (bh J)
 ·skip
  refine au<|zo J (cc hJ cV J J)<|zo J (bC bL J J)<|zo J (kc J)<|ap<|dN h J (fun h=>?_) (fun h=>?_)
  ·refine au<|aA J<|aA J<|bO h fun r4 q_r4 h=>zo J (aL NI (HD _ _ q_r4) ⟨(ht J),(ht J),aY⟩)<|aZ (r:=aE) (x:=Bh) eu (fun _=>fF _) J fun b4=>aC eu J aw J (ht J) (ht J)<|aU 11 J<|ap<|au<|zo J (cc la fM J J)<|zo J (bC qQ J J)<|zo J (cc la fM J J)<|zo J (bC qQ J J)<|bO h fun r5 q_r5 h=>zo J (aL PN (LR _ _ _ q_r5) ⟨(ht J),(ht J),(AM PM fun x y h=>LQ _ _ h),aY⟩)<|bv J<|ap<|au ?_;refine zo J (cc hJ cV J J)<|zo J (bC bL J J)<|zo J (uz J)<|aA J<|cQ J J (fun hg=>cM J)<|cQ J J (fun hg=>d9 (aJ J hg))<|zo J (pr J J)<|aA J<|cQ J J (fun hg=>cc lv fh J J)<|cQ J J (fun hg=>aO bT J J (aJ J hg))<|cQ J J (fun hg=>bS dr (aJ J hg))<|cQ J J (fun hg=>cc lv fh J J)<|cQ J J (fun hg=>aO bT J J (aJ J hg))<|cQ J J (fun hg=>bS dr (aJ J hg))<|cQ J J (fun hg=>dn (aJ J hg) (aJ J hg))<|zo J (pr J J)<|ap<|dN h J (fun h=>?_) (fun h=>?_)
   ·refine au<|zo J (fC)<|ap<|am<|aa ?_;cases so h;exact aH J J
   ·refine bD ?_;exact cg (K h) (bh J)
  ·refine bD ?_;exact cg (K h) (bh J)

theorem L7(q:cZ)(c:bA){R:Int×Int×Int}(h:xp q c=some R):bg aP 12 [tD cb q,tD bF c] (tT [ce R.1,ce R.2.1,ce R.2.2]):=by
 refine bg.of Tryz.func12 J J J fun w0 S0=>au<|zo J (ms J)<|zo J (ms J)<|zo J (fi)<|zo J (fi)<|zo J (fi)<|ap<|yu<|au<|zo J (bC lg J J)<|zo J (bC lq J J)<|bO h fun r q_r h=>zo J (aL Mh (DC _ _ q_r) ⟨(ht J),(ht J),aY⟩)<|aA J<|zo J (lA J J)<|zo J (lA J J)<|zo J (lA J J)<|zo J (lA J J)<|bv J<|bv J ?_;refine bv J<|bv J<|ap<|ae<|au<|aA J<|zo J (uz J)<|ap<|dN h J (fun h=>?_) (fun h=>?_)
 ·refine au<|aA J<|aA J<|aA J<|bv J<|bv J<|bv J<|ap<|am ?_;refine aa (mo ?_);cases so h;exact mQ J J J J
 ·refine eK<|au<|zo J (fi)<|zo J (fi)<|ap<|ae<|yw<|an<|ae<|au<|zo rfl (cc iF eo rfl rfl)<|zo rfl (bC oM rfl rfl)<|zo rfl (jk lP rfl)<|zo rfl (bj hI)<|ap ?_;refine GI (Z:=fun frag place=>nq frag place=some R) (Of:=fun frag place=>[]) (Gf:=fun frag place=>[(11,ce frag),(12,ce place)]) (fun frag place h=>?_) (fun K=>?_)
  ·skip
   refine an<|ae<|au<|aA rfl<|zo rfl (ek (ht rfl) hI)<|ap<|dN h rfl (fun h=>?_) (fun h=>?_)
   ·refine au<|aA J<|aA J<|bv J<|bv J<|zo J (fi)<|ap<|am ?_;refine aa (mo ?_);cases so h;exact mQ J J J J
   ·refine eK<|au<|zo J (fi)<|zo J (fi)<|zo J (fi)<|ap<|am<|mo ?_;cases so h;exact mQ J J J J
  ·skip
   refine aX (k:=31) J fun hN=>bK ?_;refine aM (oK (Z:=fun ls i frag1 place1=>(q.Frags.drop i=ls)∧np r ls i frag1 place1=some R) (Of:=fun _ i frag1 place1=>[]) (Gf:=fun _ i frag1 place1=>[(7,tD mX r.1),(11,ce frag1),(12,ce place1),(31,fE (bY) q.Frags),(32,je q.Frags),(33,ce (i:Int))]) (fun i frag1 place1 h=>?_) (fun e tl ih i frag1 place1 h=>?_) q.Frags 0 tf (0:Int) ⟨J,h⟩) (bh J)
   ·obtain⟨hx,h⟩:=h
    refine aq<|au<|zo J (fx J J)<|ap<|ae<|br (ht J) (dp hx)<|bk ?_;refine ac (ac (aG ?_));exact cg (K frag1 place1 h) (bh J)
   ·obtain⟨hx,h⟩:=h
    refine aq<|au<|zo J (fx J J)<|ap<|ae<|bq (ht J) (dh hx)<|eK<|ae<|av<|au<|aA J<|zo J (ka lP io J J J (dy hx))<|zo J (bC io J J)<|aZ (r:=bY) (x:=yC) io (fun _=>nj _) J fun b=>bv J<|aC io J aw J (ht J) (ht J)<|aU 14 J<|ap<|ae ?_;refine ak<|aA J<|aA J<|bO h fun r1 q_r1 h=>jb NK (EI _ _ q_r1) ⟨(ht J),(ht J),aY⟩ J fun l c1=>bv J<|ap<|ae<|au<|zo J (cc nd iN J J)<|zo J (bC rW J J)<|zo J (jk mp J)<|zo J (bj hI)<|ap<|av<|aX (k:=42) J fun hN1=>bK<|GA<|CD 40 J<|CD 15 J ?_;refine aM (oK (Z:=fun ls1 i1 frag2 place2=>(e.Nodes.drop i1=ls1)∧pj r (np r tl) i r1 ls1 i1 frag2 place2=some R) (Of:=fun _ i1 frag2 place2=>[gX bP 55 l c1 r1]) (Gf:=fun _ i1 frag2 place2=>[(7,tD mX r.1),(11,ce frag2),(12,ce place2),(13,ce (i:Int)),(15,tO bP l c1 r1),(31,fE (bY) q.Frags),(32,je q.Frags),(33,ce (i:Int)),(43,je e.Nodes),(44,ce (i1:Int))]) (fun i1 frag2 place2 h=>?_) (fun e1 tl1 ih1 i1 frag2 place2 h=>?_) e.Nodes 0 frag1 place1 ⟨J,h⟩) (bh J)
    ·obtain⟨hx1,h⟩:=h
     refine aq<|au<|zo J (fx J J)<|ap<|ae<|br (ht J) (dp hx1)<|bk ?_;refine ac (ac (aG ?_));refine an<|au<|aA rfl<|aA rfl<|zo rfl (bS rQ (wV (ht rfl)))<|zo rfl (gE (ht rfl) hI)<|bO h fun e2 q_e2 h=>zo J (cr rQ er J (wV (ht J)) (ht J) q_e2)<|zo J (cc lu fS J J)<|zo J (bC bL J J)<|zo J (kc J)<|ap<|dN h J (fun h=>?_) (fun h=>?_)
     ·refine au<|aA J<|aA J<|zo J (bS rQ (wV (ht J)))<|zo J (gE (ht J) hI)<|bv J<|bv J<|ap<|bk ?_;refine bR J (ac (ac (aG ?_)));refine bl ?_;exact cg (K (i:Int) (IntKind.i64.wrap ((r1.length:Int)-(1:Int))) h) (bh J)
     ·refine bD<|al<|an<|ak<|zo rfl (lb (cL hx hN) rfl)<|aA rfl<|aK<|bl ?_;exact aW (aM (ih (i+1) frag2 place2 ⟨cK hx,h⟩) (bh J))
    ·obtain⟨hx1,h⟩:=h
     refine aq<|au<|zo J (fx J J)<|ap<|ae<|bq (ht J) (dh hx1)<|eK<|ae<|av<|au<|aA J<|bv J<|ap<|au<|aA J<|aA J<|aA J<|aA J ?_;refine bO h fun r2 q_r2 h=>zo J (aL PY (LY _ _ _ _ q_r2) ⟨(ht J),(ht J),(ht J),(wV (ht J)),aY⟩)<|zo J (d9 (ht J))<|ap<|dN h J (fun h=>?_) (fun h=>?_)
     ·refine au<|aA J<|aA J<|bv J<|bv J<|ap<|bk ?_;refine bR J (ac (ac (bR J (ac (bR J (ac (ac (aG ?_))))))));refine bl ?_;exact cg (K (i:Int) (i1:Int) h) (bh J)
     ·refine bD<|al<|an<|ak<|zo rfl (lb (cL hx1 hN1) rfl)<|aA rfl<|aK ?_;exact aW (aM (ih1 (i1+1) frag2 place2 ⟨cK hx1,h⟩) (bh J))

end Go.Proofs.YtmogpgcfognefaaGreatDoor

