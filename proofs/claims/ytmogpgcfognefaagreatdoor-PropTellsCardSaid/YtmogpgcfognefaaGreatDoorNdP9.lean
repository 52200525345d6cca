/- di of this claim: P9. -/
import Derived.Test.YtmogpgcfognefaaGreatDoorNdT
import Derived.Test.YtmogpgcfognefaaGreatDoorNdP8
set_option linter.all false
namespace Go.Proofs.YtmogpgcfognefaaGreatDoor
open Go
set_option maxRecDepth 100000

theorem RC(e:bp)(left:Int){R:Int×Int×Bool}(h:Ff e left=some R):bh be 154 [tD bn e,bY left] (tT [bY R.1,bY R.2.1,gD R.2.2]):=by
 refine bh.of Tryz.func154 J J J fun w0 S0=>an<|zo J (lK J)<|zo J (dv)<|zo J (dv)<|zo J (ei)<|al<|ae<|an<|zo J (bj fG J J)<|bM h fun r q_r h=>zo J (aH Sl (Gx _ q_r) ⟨(ht J),bm⟩)<|zo J (uP J)<|ax J<|bX J J (fun hg=>bw d3 cU J J)<|bX J J (fun hg=>aF jZ J J (aG J hg))<|bX J J (fun hg=>bg pi (aG J hg))<|bX J J (fun hg=>cA (aG J hg) hI)<|zo J (lH J J)<|ax J<|bM h fun t q_t h=>?_;refine bX J J (fun hg=>bw d3 cU J J)<|bX J J (fun hg=>aF jZ J J (aG J hg)) ?_
 obtain⟨e1,h1t,h0t⟩:=og q_t
 have q_e1g:=fun hb=>(h1t hb).1
 refine bX J J (fun hg=>bW pi dk J (aG J hg) hI (q_e1g hg))<|bX J J (fun hg=>cR iT J ez J (aG J hg))<|bX J J (fun hg=>aF br J J (aG J hg))<|bX J J (fun hg=>cA (aG J hg) hI)<|zo J (dY (ht J) (fun hb=>(aG J (mW hb))) (fun hb=>(h1t hb).2) h0t)<|al<|cz h J (fun h=>?_) (fun h=>?_)
 ·refine an<|zo J (dv)<|zo J (dv)<|zo J (ei)<|al<|aj<|aa ?_;cases so h;exact lF J J J J
 ·refine dF<|ae<|bM h fun e2 q_e2 h=>bM h fun e3 q_e3 h=>?_
  refine DX 11 [tc (bF LU e.Nodes),tc (eV (aV) e.Nodes),tc (bF aV e2),tc (tD aV e2),tc (bF LU e.Nodes),tc (eV (aV) e.Nodes),tc (bF aV e3),tc (tD aV e3),([8],fun s=>tV (aN ((s.getD 0 wk).h 0).2 0)),([9],fun s=>tV (aN ((s.getD 0 wk).h 0).2 0)),tc (BH)] [false,false,false,false,false,false,false,false,true,true,true] [([],fun _=>[]),([8],fun sg=>[bx aV 149 ((sg 8).h 0).2 D4]),([9],fun sg=>[bx aV 149 ((sg 9).h 0).2 D4]),([8,9],fun sg=>[bx aV 149 ((sg 9).h 0).2 D4,bx aV 149 ((sg 8).h 0).2 D4]),([8,9,10],fun sg=>[bx aV 149 ((sg 8).h 0).2 e2,bx aV 149 ((sg 9).h 0).2 D4])] (fun _=>J) mixed J J J J
   ⟨⟨[⟨2,fun _=>bF bn e,none⟩],_,[[],[8],[9],[8,9]],J,⟨(fun _=>J),bm⟩,J,J,J,J,J,⟨fun sg=>ak J (bw d3 cU J J),fun sg=>ak J (bw d3 cU J J),fun sg=>ak J (bw d3 cU J J),fun sg=>ak J (bw d3 cU J J),bm⟩⟩,
   ⟨⟨[⟨28,fun _=>bF LU e.Nodes,some 0⟩],_,[[],[8],[9],[8,9]],J,⟨(fun _=>J),bm⟩,J,J,J,J,J,⟨fun sg=>ak J (bj jZ J J),fun sg=>ak J (bj jZ J J),fun sg=>ak J (bj jZ J J),fun sg=>ak J (bj jZ J J),bm⟩⟩,
   ⟨⟨[⟨29,fun _=>tD LU e.Nodes,some 1⟩],_,[[],[8],[9],[8,9]],J,⟨(fun _=>J),bm⟩,J,J,J,J,J,⟨fun sg=>ak J (bW pi dk J (ht J) hI q_e2),fun sg=>ak J (bW pi dk J (ht J) hI q_e2),fun sg=>ak J (bW pi dk J (ht J) hI q_e2),fun sg=>ak J (bW pi dk J (ht J) hI q_e2),bm⟩⟩,
   ⟨⟨[⟨30,fun _=>bF aV e2,some 2⟩],_,[[],[8],[9],[8,9]],J,⟨(fun _=>J),bm⟩,J,J,J,J,J,⟨fun sg=>ak J (bj dk J J),fun sg=>ak J (bj dk J J),fun sg=>ak J (bj dk J J),fun sg=>ak J (bj dk J J),bm⟩⟩,
   ⟨⟨[⟨2,fun _=>bF bn e,none⟩],_,[[],[8],[9],[8,9],[8,9,10]],J,⟨(fun _=>J),bm⟩,J,J,J,J,J,⟨fun sg=>ak J (bw d3 cU J J),fun sg=>ak J (bw d3 cU J J),fun sg=>ak J (bw d3 cU J J),fun sg=>ak J (bw d3 cU J J),fun sg=>ak J (bw d3 cU J J),bm⟩⟩,
   ⟨⟨[⟨32,fun _=>bF LU e.Nodes,some 4⟩],_,[[],[8],[9],[8,9],[8,9,10]],J,⟨(fun _=>J),bm⟩,J,J,J,J,J,⟨fun sg=>ak J (bj jZ J J),fun sg=>ak J (bj jZ J J),fun sg=>ak J (bj jZ J J),fun sg=>ak J (bj jZ J J),fun sg=>ak J (bj jZ J J),bm⟩⟩,
   ⟨⟨[⟨33,fun _=>tD LU e.Nodes,some 5⟩],_,[[],[8],[9],[8,9],[8,9,10]],J,⟨(fun _=>J),bm⟩,J,J,J,J,J,⟨fun sg=>ak J (bW pi dk J (ht J) hI q_e3),fun sg=>ak J (bW pi dk J (ht J) hI q_e3),fun sg=>ak J (bW pi dk J (ht J) hI q_e3),fun sg=>ak J (bW pi dk J (ht J) hI q_e3),fun sg=>ak J (bW pi dk J (ht J) hI q_e3),bm⟩⟩,
   ⟨⟨[⟨34,fun _=>bF aV e3,some 6⟩],_,[[],[8],[9],[8,9],[8,9,10]],J,⟨(fun _=>J),bm⟩,J,J,J,J,J,⟨fun sg=>ak J (bj dk J J),fun sg=>ak J (bj dk J J),fun sg=>ak J (bj dk J J),fun sg=>ak J (bj dk J J),fun sg=>ak J (bj dk J J),bm⟩⟩,
   ⟨⟨[],_,[([],[8]),([9],[8,9])],J,bm,J,J,J,J,J,⟨fun sg=>ea J (kV (r:=aV) (x:=D4) dk (fun _=>kX _)),fun sg=>ea J (EffOK.post_imp (post:=fun x__=>(fun(sg:Nat→OI)=>[bx aV 149 ((sg 8).h 0).2 D4,bx aV 149 ((sg 9).h 0).2 D4]) (Hg sg 8 x__)) (kV (r:=aV) (x:=D4) dk (fun _=>kX _)) (fun h=>ee.pick [1,0] J h)),bm⟩⟩,
   ⟨⟨[],_,[([],[9]),([8],[8,9])],J,bm,J,J,J,J,J,⟨fun sg=>ea J (kV (r:=aV) (x:=D4) dk (fun _=>kX _)),fun sg=>ea J (kV (r:=aV) (x:=D4) dk (fun _=>kX _)),bm⟩⟩,
   ⟨⟨[⟨7,fun sg=>tV (aN ((sg 8).h 0).2 0),some 8⟩,⟨31,fun _=>tD aV e2,some 3⟩],_,[([8,9],[8,9,10])],J,⟨(fun _=>J),(fun _=>J),bm⟩,J,J,J,J,J,⟨fun sg=>ea J (EffOK.fr1 (jv dk J (N7 ay) J (ht J) (ht J))),bm⟩⟩,
   bm⟩⟩⟩⟩⟩⟩⟩⟩⟩⟩⟩ (fun sg=>?_)
  refine(show RG _ _ _ _ [bx aV 149 ((sg 8).h 0).2 e2,bx aV 149 ((sg 9).h 0).2 D4] _ from ?_);refine aW 7 J<|aE dk J ay J (ht J) (ht J)<|aW 8 J<|al<|ae<|an<|zo J (bw iT ez J J)<|zo J (bj br J J)<|zo J (uP J)<|ax J<|bX J J (fun hg=>bw iT ez J J)<|bX J J (fun hg=>aF br J J (aG J hg))<|bX J J (fun hg=>cA (aG J hg) hI)<|zo J (lH J J)<|al<|cz h J (fun h=>?_) (fun h=>?_)
  ·refine an<|zo J (dv)<|zo J (dv)<|zo J (ei)<|al<|aj<|aa ?_;cases so h;exact lF J J J J
  ·refine dF<|ae ?_
   refine er (ts:=[_,_,_,_,_,_,_,_,_,_,_,_]) mixed J J
    ⟨ic 7 J J J (bw lD fX J J),
    ⟨dc 44 0 J J J (bj br J J),
    ⟨ic 8 J J J (bw lD fX J J),
    ⟨dc 46 2 J J J (bj br J J),
    ⟨eT 45 1 47 3 J J J J (pw (ht J) (ht J)),
    ⟨ic 7 J J J (bw lD fX J J),
    ⟨dc 49 5 J J J (bj br J J),
    ⟨ic 8 J J J (bw lD fX J J),
    ⟨dc 51 7 J J J (bj br J J),
    ⟨eT 50 6 52 8 J J J J (F9 (ht J) (ht J)),
    ⟨dc 48 4 J J J (yG J),
    ⟨dc 53 9 J J J (yG J),
    bm⟩⟩⟩⟩⟩⟩⟩⟩⟩⟩⟩⟩ ?_
   refine ai<|ae<|an<|ax rfl<|ax rfl<|zo rfl (cS (ht rfl) (ht rfl))<|ax rfl<|bX rfl rfl (fun hg=>cq J)<|bX J J (fun hg=>cq J)<|bX J J (fun hg=>eg (aG J hg) (aG J hg))<|zo J (lH J J)<|al<|cz h J (fun h=>?_) (fun h=>?_)
   ·refine an<|zo J (dv)<|zo J (dv)<|zo J (ei)<|al<|aj<|aa ?_;cases so h;exact lF J J J J
   ·refine dF<|an<|ax J<|ax J<|ax J<|zo J (dn (ht J) (ht J))<|aY J<|aY J<|zo J (ei)<|al<|aj ?_;cases so h;exact lF J J J J

theorem T8(n:aw)(a1:aS)(b:aS)(left:Int){R:Bool}(h:A9 n a1 b left=some R):bh be 79 [tD aA n,tD aR a1,tD aR b,bY left] (gD R):=by
 refine bh.of Tryz.func79 J J J fun w0 S0=>an<|zo J (lK J)<|zo J (lK J)<|zo J (lK J)<|zo J (ei)<|al<|ae<|an<|zo J (bw mM gi J J)<|zo J (bj br J J)<|zo J (eQ J)<|al<|cz h J (fun h=>?_) (fun h=>?_)
 ·refine an<|zo J (bw mM gi J J)<|zo J (bj br J J)<|zo J (uP J)<|aY J<|al<|aj<|aa ?_;cases so h;exact aB J J
 ·refine dF<|ae<|an<|zo J (bw mM gi J J)<|zo J (bj br J J)<|zo J (uP J)<|ax J<|bX J J (fun hg=>bw mM gi J J)<|bX J J (fun hg=>aF br J J (aG J hg))<|bX J J (fun hg=>cA (aG J hg) hI)<|zo J (lH J J)<|ax J<|bX J J (fun hg=>bw oQ jt J J)<|bX J J (fun hg=>aF bV J J (aG J hg))<|bX J J (fun hg=>bg cZ (aG J hg))<|bX J J (fun hg=>bw oQ jt J J)<|bX J J (fun hg=>aF bV J J (aG J hg))<|bX J J (fun hg=>bg cZ (aG J hg))<|bX J J (fun hg=>cA (aG J hg) (aG J hg))<|zo J (lH J J)<|ax J<|bM h fun t q_t h=>?_;refine bX J J (fun hg=>bw uE oP J J)<|bX J J (fun hg=>aF fG J J (aG J hg)) ?_
  obtain⟨r,h1t,h0t⟩:=og q_t
  have q_rg:=fun hb=>(h1t hb).1
  refine bX J J (fun hg=>aH Xf (RD _ (q_rg hg)) ⟨(aG J hg),bm⟩)<|bX J J (fun hg=>dD (aG J hg))<|zo J (dY (ht J) (fun hb=>(aG J (mW hb))) (fun hb=>(h1t hb).2) h0t)<|al<|cz h J (fun h=>?_) (fun h=>?_)
  ·refine an<|zo J (ei)<|al<|aj<|aa ?_;cases so h;exact aB J J
  ·refine dF<|an<|IC (fun y:Bool=>gD y) MQ J fun b1=>aY J<|al<|ae<|an<|zo J (bw uE oP J J)<|zo J (bj fG J J)<|bM h fun r1 q_r1 h=>kC Xe (O6 _ q_r1) ⟨(ht J),bm⟩ J fun l c=>zo J (fc rD (.head _) (ht J))<|zo J (bk hI)<|al<|ap<|jI (.head _) fun hN=>bE ?_;refine aJ (jY (Z:=fun ls i held=>(r1.drop i=ls)∧qB a1 b left ls held=some R) (Of:=fun _ i held=>[cY bn 45 l c r1,HV (fun y:Bool=>gD y) MQ b1 held]) (Gf:=fun _ i held=>[(3,bY left),(5,bF aR a1),(6,bF aR b),(9,tV (pI b1)),(48,mU l c r1),(49,gA r1),(50,bY (i:Int))]) (fun i held h=>?_) (fun e tl ih i held h=>?_) r1 0 ([]:List ((Int×Int)×Bool)) ⟨J,h⟩) (aQ J)
   ·obtain⟨hx,h⟩:=h
    refine av<|an<|zo J (eu J J)<|al<|ae<|bu (ht J) (dh hx)<|bf ?_;refine ac (ac (aI ?_));refine ai<|ae<|an<|zo rfl (bw oQ jt rfl rfl)<|zo rfl (bj bV rfl rfl)<|zo rfl (fU cZ rfl)<|zo rfl (bk hI)<|al<|ap<|aT (k:=68) J fun hN1=>bE<|pB ?_;refine aJ (dB (Z:=fun ls1 i1=>(a1.Cols.drop i1=ls1)∧ta b held ls1 i1=some R) (Of:=fun _ i1=>[HV (fun y:Bool=>gD y) MQ b1 held]) (Gf:=fun _ i1=>[(5,bF aR a1),(6,bF aR b),(9,tV (pI b1)),(69,gA a1.Cols),(70,bY (i1:Int))]) (fun i1 h=>?_) (fun e1 tl1 ih1 i1 h=>?_) a1.Cols 0 ⟨J,h⟩) (aQ J)
    ·obtain⟨hx1,h⟩:=h
     refine av<|an<|zo J (eu J J)<|al<|ae<|bu (ht J) (dh hx1)<|bf ?_;refine ac (ac (aI ?_));refine ai<|an<|zo rfl (ei)<|al<|aj<|aX ?_;cases so h;exact aB J J
    ·obtain⟨hx1,h⟩:=h
     refine av<|an<|zo J (eu J J)<|al<|ae<|bt (ht J) (dg hx1)<|dF<|ae<|ap<|an<|ax J<|aY J<|al<|ae<|bM h fun e2 q_e2 h=>?_
     refine er (ts:=[_,_,_,_,_,_,_,_,_,_,_,_,_,_]) mixed J J
      ⟨ic 9 J J J (cq J),
      ⟨ic 5 J J J (bw oQ jt J J),
      ⟨dc 74 1 J J J (bj bV J J),
      ⟨ic 15 J J J (cq J),
      ⟨eT 75 2 76 3 J J J J (gM cZ br J J J (dl hx1)),
      ⟨dc 77 4 J J J (bj br J J),
      ⟨ic 6 J J J (bw oQ jt J J),
      ⟨dc 79 6 J J J (bj bV J J),
      ⟨ic 15 J J J (cq J),
      ⟨eT 80 7 81 8 J J J J (gM cZ br J J J q_e2),
      ⟨dc 82 9 J J J (bj br J J),
      ⟨eT 78 5 83 10 J J J J (sO (r:=cC) (ys:=[e1,e2]) (xs:=[.tmp 78,.tmp 83]) Cf br J BG J J ⟨(ht J),(ht J),bm⟩),
      ⟨eT 73 0 84 11 J J J J (Jx (γ:=fun y:Bool=>tD rB y) (z:=false) Tryz.underlying58 (Az Cf oT br J R6) zv4 (fun S=>⟨_,J,(fun _=>J) S⟩) (.head _) (ht J) (Oz (ht J))),
      ⟨dc 85 12 J J J (dD (ht J)),
      bm⟩⟩⟩⟩⟩⟩⟩⟩⟩⟩⟩⟩⟩⟩ ?_
     refine ai<|cz h rfl (fun h=>?_) (fun h=>?_)
     ·refine an<|zo J (ei)<|al<|aj ?_;refine am (aa (aa (am (aa ?_))));refine aX ?_;cases so h;exact aB J J
     ·refine aO<|af<|ai<|ah<|zo rfl (je (cx hx1 hN1) rfl)<|ax rfl<|aC ?_;exact aM (aJ (ih1 (i1+1) ⟨cw hx1,h⟩) (aQ J))
   ·obtain⟨hx,h⟩:=h
    refine av<|an<|zo J (eu J J)<|al<|ae<|bt (ht J) (dg hx)<|dF<|ae<|ap<|an<|zo J (bT rD fG (.head _) (ht J) (ht J) (dl hx))<|zo J (dj (r:=bn) (i:=(i:Int)) (foff:=0) fG J J bO J (.head _) (dl hx) (ht J))<|aZ (r:=bn) (x:=se) fG (fun _=>qe _) J fun b2=>aE fG J ay J (ht J) (ht J)<|aW 11 J<|al<|an<|zo J (bj fG J J) ?_;refine ax J<|bM h fun r2 q_r2 h=>zo J (aH Xd (RC _ _ q_r2) ⟨(ht J),(ht J),bm⟩)<|ax J<|zo J (iA J J)<|zo J (iA J J)<|zo J (iA J J)<|aY J<|aY J<|aY J<|al<|an<|ax J<|al<|cz h J (fun h=>?_) (fun h=>?_)
    ·refine ah<|ax J<|ax J<|ax J<|zo J (sO (r:=cC) (ys:=[r2.1,r2.2.1]) (xs:=[.tmp 63,.tmp 64]) Cf br J BG J J ⟨(ht J),(ht J),bm⟩)<|cg<|Su (γ:=fun y:Bool=>gD y) Tryz.underlying58 (Az Cf oT br J R6) (ht J) (Oz (ht J)) hB<|aC<|af<|ai<|ah<|zo rfl (je (cx hx hN) rfl)<|ax rfl<|aC<|aU ?_;exact aM (aJ (ih (i+1) (jS held (k2 ([r2.1,r2.2.1])) true) ⟨cw hx,h⟩) (aQ J))
    ·refine aO<|af<|ai<|ah<|zo rfl (je (cx hx hN) rfl)<|ax rfl<|aC ?_;exact aM (aJ (ih (i+1) held ⟨cw hx,h⟩) (aQ J))

theorem RB(keys:(List Int))(c:Int){R:Bool}(h:td keys c=some R):bh be 155 [bY c,bF jd keys] (gD R):=by
 refine bh.of Tryz.func155 J J J fun w0 S0=>an<|zo J (ei)<|al<|an<|zo J (bj bV J J)<|ax J<|bM h fun r q_r h=>zo J (aH UH (JU _ _ q_r) ⟨(ht J),(ht J),bm⟩)<|zo J (dD (ht J))<|aY J<|al<|aj ?_;cases so h;exact aB J J

theorem T7(a1:aS)(keys:(List Int)){R:Bool}(h:ze a1 keys=some R):bh be 80 [tD aR a1,ji keys] (gD R):=by
 refine bh.of Tryz.func80 J J J fun w0 S0=>an<|zo J (lK J)<|zo J (lK J)<|zo J (ei)<|al<|an<|zo J (bw mM gi J J)<|zo J (bj br J J)<|zo J (eQ J)<|ax J<|bM h fun t q_t h=>bo J J (fun hg=>bw oQ jt J J)<|bo J J (fun hg=>aF bV J J (aG J hg))<|bo J J (fun hg=>(show cO _ _ _ _ ((iB be FJ pQ (fun(x:Int)=>(td keys) x)))from kQ (cts:=[bF jd keys]) (caps:=[.tmp 3]) Xc ⟨(ht J),bm⟩ (fun x y h=>RB _ _ h))) ?_
 obtain⟨r,h1t,h0t⟩:=og q_t
 have q_rg:=fun hb=>(h1t hb).1
 refine bo J J (fun hg=>aH LC (B9 _ _ (q_rg hg)) ⟨(aG J hg),(aG J hg),bm⟩)<|bo J J (fun hg=>dD (aG J hg))<|zo J (cu (ht J) (fun hb=>(aG J hb)) (fun hb=>(h1t hb).2) h0t)<|aY J<|al<|aj ?_;cases so h;exact aB J J

theorem T6(s1:(List kW))(s2:(List kW)){R:Bool}(h:nz s1 s2=some R):bh be 81 [eV (iG) s1,eV (iG) s2] (gD R):=by
 refine bh.of Tryz.func81 J J J fun w0 S0=>an<|zo J (ei)<|al<|ae<|an<|ax J<|zo J (fU ve J)<|ax J<|zo J (fU ve J)<|zo J (cA (ht J) (ht J))<|al<|cz h J (fun h=>?_) (fun h=>?_)
 ·refine an<|zo J (ei)<|al<|aj<|aa ?_;cases so h;exact aB J J
 ·refine dF<|ae<|an<|ax J<|zo J (fU ve J)<|zo J (bk hI)<|al<|ap<|aT (k:=11) J fun hN=>bE ?_;refine aJ (dB (Z:=fun ls i=>(s1.drop i=ls)∧jj s2 ls i=some R) (Of:=fun _ i=>[]) (Gf:=fun _ i=>[(0,eV (iG) s1),(1,eV (iG) s2),(12,gA s1),(13,bY (i:Int))]) (fun i h=>?_) (fun e tl ih i h=>?_) s1 0 ⟨J,h⟩) (aQ J)
  ·obtain⟨hx,h⟩:=h
   refine av<|an<|zo J (eu J J)<|al<|ae<|bu (ht J) (dh hx)<|bf ?_;refine ac (ac (aI ?_));refine ai<|an<|zo rfl (ei)<|al<|aj ?_;cases so h;exact aB J J
  ·obtain⟨hx,h⟩:=h
   refine av<|an<|zo J (eu J J)<|al<|ae<|bt (ht J) (dg hx)<|dF<|ae<|ap<|an<|ax J<|aY J<|al<|ae<|bM h fun e1 q_e1 h=>?_
   refine er (ts:=[_,_,_,_,_,_,_,_,_]) mixed J J
    ⟨ic 0 J J J (cq J),
    ⟨ic 5 J J J (cq J),
    ⟨eT 16 0 17 1 J J J J (gM ve wu J J J (dl hx)),
    ⟨dc 18 2 J J J (bj wu J J),
    ⟨ic 1 J J J (cq J),
    ⟨ic 5 J J J (cq J),
    ⟨eT 20 4 21 5 J J J J (gM ve wu J J J q_e1),
    ⟨dc 22 6 J J J (bj wu J J),
    ⟨eT 19 3 23 7 J J J J (BX V6 (ht J) (ht J)),
    bm⟩⟩⟩⟩⟩⟩⟩⟩⟩ ?_
   refine ai<|cz h rfl (fun h=>?_) (fun h=>?_)
   ·refine an<|zo J (ei)<|al<|aj ?_;refine am (aa (aa (am (aa ?_))));cases so h;exact aB J J
   ·refine aO<|af<|ai<|ah<|zo rfl (je (cx hx hN) rfl)<|ax rfl<|aC ?_;exact aM (aJ (ih (i+1) ⟨cw hx,h⟩) (aQ J))

theorem Up(p:(Option ci))(frag:Int)(at1:Int)(l:(List aS)){R:Bool}(h:te p frag at1 l=some R):bh be 43 [tD qU p,bY frag,bY at1,eV (aR) l] (gD R):=by
 refine bh.of Tryz.func43 J J J fun w0 S0=>an<|zo J (ei)<|al<|an<|ax J<|bM h fun p1 q_p1 h=>zo J (f9 (ht J) q_p1)<|zo J (bw rx jG J J)<|zo J (bw fY dp J J)<|zo J (bj nS J J)<|ax J<|bM h fun e q_e h=>zo J (gM kE fN J J J q_e)<|zo J (bj fN J J)<|aZ (r:=bR) (x:=IT) fN (fun _=>mu _) J fun b=>aE fN J ay J (ht J) (ht J)<|aW 9 J<|al<|ae ?_;refine ah<|zo J (bw mO gJ J J)<|zo J (bj n8 J J)<|ax J<|bM h fun e1 q_e1 h=>zo J (gM ib db J J J q_e1)<|zo J (bj db J J)<|aZ (r:=aA) (x:=yF) db (fun _=>ev _) J fun b1=>aE db J ay J (ht J) (ht J)<|aW 10 J<|al ?_;refine Fy (Z:=nU p frag l e e1=some R) (Of:=[]) (Gf:=[(0,tD qU p),(1,bY frag),(3,eV (aR) l),(9,bF bR e),(10,bF aA e1)]) (fun h=>?_) (fun K=>?_)
 ·skip
  refine ae<|an<|zo J (bw mN gj J J)<|zo J (bj br J J)<|zo J (eQ J)<|ax J<|bX J J (fun hg=>bw iS dE J J)<|bX J J (fun hg=>aF br J J (aG J hg))<|bX J J (fun hg=>eg (aG J hg) hI)<|zo J (lH J J)<|al<|cz h J (fun h=>?_) (fun h=>?_)
  ·refine an<|zo J (ei)<|al<|aj<|aa ?_;cases so h;exact aB J J
  ·refine dF<|an<|ax J<|zo J (bw iS dE J J)<|zo J (bj br J J)<|bM h fun e2 q_e2 h=>zo J (gM kD cD J J J q_e2)<|zo J (bj cD J J)<|aZ (r:=aR) (x:=vj) cD (fun _=>eo _) J fun b2=>aE cD J ay J (ht J) (ht J)<|aW 13 J<|al<|ae<|an<|zo J (bw eh cj J J)<|zo J (bj br J J)<|al<|ap<|ae ?_;refine ah<|zo J (eQ J)<|aY J<|al<|cz h J (fun h=>?_) (fun h=>?_)
   ·refine ae<|bM h fun e3 q_e3 h=>bM h fun p2 q_p2 h=>bM h fun e4 q_e4 h=>bM h fun e5 q_e5 h=>bM h fun r q_r h=>?_
    refine er (ts:=[_,_,_,_,_,_,_,_,_,_,_,_,_,_,_,_,_,_,_,_,_]) mixed J J
     ⟨ic 10 J J J (bj db J J),
     ⟨ic 13 J J J (bj cD J J),
     ⟨ic 3 J J J (cq J),
     ⟨ic 10 J J J (bw kI ew J J),
     ⟨dc 75 3 J J J (bj br J J),
     ⟨eT 74 2 76 4 J J J J (gM kD cD J J J q_e3),
     ⟨dc 77 5 J J J (bj cD J J),
     ⟨ic 0 J J J (cq J),
     ⟨dc 79 7 J J J (f9 (ht J) q_p2),
     ⟨dc 80 8 J J J (bw B2 zB J J),
     ⟨dc 81 9 J J J (bj Kv J J),
     ⟨ic 1 J J J (cq J),
     ⟨eT 82 10 83 11 J J J J (gM Tryz.underlying161 D7 J J J q_e4),
     ⟨dc 84 12 J J J (bj D7 J J),
     ⟨ic 10 J J J (bw iS dE J J),
     ⟨dc 86 14 J J J (bj br J J),
     ⟨eT 85 13 87 15 J J J J (gM n7 bV J J J q_e5),
     ⟨dc 88 16 J J J (bj bV J J),
     ⟨dc 89 17 J J J (fU cZ J),
     ⟨⟨[⟨72,_,some 0⟩,⟨73,_,some 1⟩,⟨78,_,some 6⟩,⟨90,_,some 18⟩],_,J,⟨J,J,J,J,bm⟩,J,J,ak J (aH Yo (T8 _ _ _ _ q_r) ⟨(ht J),(ht J),(ht J),(ht J),bm⟩)⟩,
     ⟨dc 91 19 J J J (yG J),
     bm⟩⟩⟩⟩⟩⟩⟩⟩⟩⟩⟩⟩⟩⟩⟩⟩⟩⟩⟩⟩⟩ ?_
    refine ai<|aj ?_;refine am (aa ?_);cases so h;exact aB J J
   ·refine an<|zo J (eQ J)<|aY J<|al<|cz h J (fun h=>?_) (fun h=>?_)
    ·refine an<|zo J (bw mM gi J J)<|zo J (bj br J J)<|zo J (uP J)<|ax J<|bM h fun t q_t h=>bo J J (fun hg=>cq J)<|bo J J (fun hg=>bw kI ew J J)<|bo J J (fun hg=>aF br J J (aG J hg)) ?_
     obtain⟨e6,h1t,h0t⟩:=og q_t
     have q_e6g:=fun hb=>(h1t hb).1
     refine bo J J (fun hg=>bW kD cD J (aG J hg) (aG J hg) (q_e6g hg))<|bo J J (fun hg=>cR mM J gi J (aG J hg))<|bo J J (fun hg=>aF br J J (aG J hg))<|bo J J (fun hg=>cA (aG J hg) hI)<|zo J (cu (ht J) (fun hb=>(aG J hb)) (fun hb=>(h1t hb).2) h0t)<|aY J<|al<|aj ?_;refine am (aa ?_);cases so h;exact aB J J
    ·refine c0 (Z:=fun x=>nT p frag e e1 e2 x=some R) (Of:=fun x=>[]) (Gf:=fun x=>[(0,tD qU p),(1,bY frag),(9,bF bR e),(10,bF aA e1),(13,bF aR e2),(69,bY e1.Op),(106,gD x)]) (fun x h=>?_) (fun K1=>?_)
     ·skip
      refine cz h J (fun h=>?_) (fun h=>?_)
      ·refine an<|zo J (bj cD J J)<|zo J (bw jk dO J J)<|zo J (bj bV J J)<|bM h fun r1 q_r1 h=>zo J (aH Yn (T7 _ _ q_r1) ⟨(ht J),(ht J),bm⟩)<|aY J<|al<|aj ?_;refine am (aa ?_);cases so h;exact aB J J
      ·refine an<|zo J (eQ J)<|aY J<|al<|cz h J (fun h=>?_) (fun h=>?_)
       ·refine an<|zo J (bw mM gi J J)<|zo J (bj br J J)<|zo J (eQ J)<|aY J<|al<|aj ?_;refine am (aa ?_);cases so h;exact aB J J
       ·refine an<|zo J (eQ J)<|aY J<|al<|cz h J (fun h=>?_) (fun h=>?_)
        ·refine an<|zo J (bw mM gi J J)<|zo J (bj br J J)<|zo J (uP J)<|aY J<|al<|aj ?_;refine am (aa ?_);cases so h;exact aB J J
        ·refine an<|zo J (eQ J)<|aY J<|al<|cz h J (fun h=>?_) (fun h=>?_)
         ·refine an<|ax J<|ax J<|bM h fun r2 q_r2 h=>zo J (aH Wc (OU _ _ q_r2) ⟨(ht J),(ht J),bm⟩)<|aZ (r:=aA) (x:=yF) db (fun _=>ev _) J fun b3=>aE db J ay J (ht J) (ht J)<|aW 14 J<|al<|an<|zo J (bw mM gi J J)<|zo J (bj br J J)<|zo J (uP J)<|ax J<|bo J J (fun hg=>bw pK ju J J)<|bo J J (fun hg=>aF br J J (aG J hg))<|bo J J (fun hg=>bq (aG J hg) hI)<|zo J (hZ J J)<|ax J<|bo J J (fun hg=>bw eh cj J J)<|bo J J (fun hg=>aF br J J (aG J hg)) ?_;refine bo J J (fun hg=>bq (aG J hg) hI)<|zo J (hZ J J)<|ax J<|bo J J (fun hg=>bw uh mY J J)<|bo J J (fun hg=>aF br J J (aG J hg))<|bo J J (fun hg=>bw uh mY J J)<|bo J J (fun hg=>aF br J J (aG J hg))<|bo J J (fun hg=>bq (aG J hg) (aG J hg))<|zo J (hZ J J)<|ax J<|bM h fun t1 q_t1 h=>bo J J (fun hg=>bw px io J J)<|bo J J (fun hg=>aF yV J J (aG J hg))<|bo J J (fun hg=>bw px io J J)<|bo J J (fun hg=>aF yV J J (aG J hg)) ?_
          obtain⟨r3,h1t1,h0t1⟩:=og q_t1
          have q_r3g:=fun hb=>(h1t1 hb).1
          refine bo J J (fun hg=>aH Ym (T6 _ _ (q_r3g hg)) ⟨(aG J hg),(aG J hg),bm⟩)<|zo J (cu (ht J) (fun hb=>(aG J hb)) (fun hb=>(h1t1 hb).2) h0t1)<|aY J<|al<|aj ?_;refine am (aa ?_);cases so h;exact aB J J
         ·refine aO<|af<|ai<|an<|zo rfl (ei)<|al<|aj ?_;cases so h;exact aB J J
     ·skip
      refine an<|zo J (eQ J)<|aY J<|al<|cz h J (fun h=>?_) (fun h=>?_)
      ·refine aO ?_;exact bz (K1 (e1.Op==(4:Int)) h) (aQ J)
      ·refine ah<|zo J (eQ J)<|aY J<|aC ?_;exact bz (K1 (e1.Op==(11:Int)) h) (aQ J)
 ·skip
  refine an<|zo J (bw eh cj J J)<|zo J (bj br J J)<|zo J (eQ J)<|al<|cz h J (fun h=>?_) (fun h=>?_)
  ·refine an<|ax J<|ax J<|bM h fun r4 q_r4 h=>zo J (aH Wc (OU _ _ q_r4) ⟨(ht J),(ht J),bm⟩)<|aZ (r:=aA) (x:=yF) db (fun _=>ev _) J fun b4=>aE db J ay J (ht J) (ht J)<|aW 11 J<|al<|an<|zo J (bw ki eO J J)<|zo J (bj sf J J)<|zo J (bw ki eO J J)<|zo J (bj sf J J)<|bM h fun r5 q_r5 h=>zo J (aH Yq (Ua _ _ _ q_r5) ⟨(ht J),(ht J),(Gm Yp fun x y h=>T9 _ _ h),bm⟩)<|aY J<|al<|an ?_;refine zo J (bw eh cj J J)<|zo J (bj br J J)<|zo J (uP J)<|ax J<|bX J J (fun hg=>cq J)<|bX J J (fun hg=>dD (aG J hg))<|zo J (lH J J)<|ax J<|bX J J (fun hg=>bw jk dO J J)<|bX J J (fun hg=>aF bV J J (aG J hg))<|bX J J (fun hg=>bg cZ (aG J hg))<|bX J J (fun hg=>bw jk dO J J)<|bX J J (fun hg=>aF bV J J (aG J hg))<|bX J J (fun hg=>bg cZ (aG J hg))<|bX J J (fun hg=>cA (aG J hg) (aG J hg))<|zo J (lH J J)<|al<|cz h J (fun h=>?_) (fun h=>?_)
   ·refine an<|zo J (ei)<|al<|aj<|aa ?_;cases so h;exact aB J J
   ·refine aO ?_;exact bz (K h) (aQ J)
  ·refine aO ?_;exact bz (K h) (aQ J)

theorem Uy(q:da)(c:bG){R:Int×Int×Int}(h:yp q c=some R):bh be 12 [tD ce q,tD bJ c] (tT [bY R.1,bY R.2.1,bY R.2.2]):=by
 refine bh.of Tryz.func12 J J J fun w0 S0=>an<|zo J (lK J)<|zo J (lK J)<|zo J (dv)<|zo J (dv)<|zo J (dv)<|al<|DV<|an<|zo J (bj mg J J)<|zo J (bj n9 J J)<|bM h fun r q_r h=>zo J (aH UJ (JW _ _ q_r) ⟨(ht J),(ht J),bm⟩)<|ax J<|zo J (iA J J)<|zo J (iA J J)<|zo J (iA J J)<|zo J (iA J J)<|aY J<|aY J ?_;refine aY J<|aY J<|al<|ae<|an<|ax J<|zo J (uP J)<|al<|cz h J (fun h=>?_) (fun h=>?_)
 ·refine an<|ax J<|ax J<|ax J<|aY J<|aY J<|aY J<|al<|aj ?_;refine aa (p9 ?_);cases so h;exact lF J J J J
 ·refine dF<|an<|zo J (dv)<|zo J (dv)<|al<|ae<|DW<|ai<|ae<|an<|zo rfl (bw fY dp rfl rfl)<|zo rfl (bj nS rfl rfl)<|zo rfl (fU kE rfl)<|zo rfl (bk hI)<|al ?_;refine Nz (Z:=fun frag place=>ru frag place=some R) (Of:=fun frag place=>[]) (Gf:=fun frag place=>[(11,bY frag),(12,bY place)]) (fun frag place h=>?_) (fun K=>?_)
  ·skip
   refine ai<|ae<|an<|ax rfl<|zo rfl (cS (ht rfl) hI)<|al<|cz h rfl (fun h=>?_) (fun h=>?_)
   ·refine an<|ax J<|ax J<|aY J<|aY J<|zo J (dv)<|al<|aj ?_;refine aa (p9 ?_);cases so h;exact lF J J J J
   ·refine dF<|an<|zo J (dv)<|zo J (dv)<|zo J (dv)<|al<|aj<|p9 ?_;cases so h;exact lF J J J J
  ·skip
   refine aT (k:=31) J fun hN=>bE ?_;refine aJ (tB (Z:=fun ls i frag1 place1=>(q.Frags.drop i=ls)∧rt r ls i frag1 place1=some R) (Of:=fun _ i frag1 place1=>[]) (Gf:=fun _ i frag1 place1=>[(7,tD qU r.1),(11,bY frag1),(12,bY place1),(31,eV (bR) q.Frags),(32,gA q.Frags),(33,bY (i:Int))]) (fun i frag1 place1 h=>?_) (fun e tl ih i frag1 place1 h=>?_) q.Frags 0 uQ (0:Int) ⟨J,h⟩) (aQ J)
   ·obtain⟨hx,h⟩:=h
    refine av<|an<|zo J (eu J J)<|al<|ae<|bu (ht J) (dh hx)<|bf ?_;refine ac (ac (aI ?_));exact bz (K frag1 place1 h) (aQ J)
   ·obtain⟨hx,h⟩:=h
    refine av<|an<|zo J (eu J J)<|al<|ae<|bt (ht J) (dg hx)<|dF<|ae<|ap<|an<|ax J<|zo J (gM kE fN J J J (dl hx))<|zo J (bj fN J J)<|aZ (r:=bR) (x:=IT) fN (fun _=>mu _) J fun b=>aY J<|aE fN J ay J (ht J) (ht J)<|aW 14 J<|al<|ae ?_;refine ah<|ax J<|ax J<|bM h fun r1 q_r1 h=>kC We (Lg _ _ q_r1) ⟨(ht J),(ht J),bm⟩ J fun l c1=>aY J<|al<|ae<|an<|zo J (bw mO gJ J J)<|zo J (bj n8 J J)<|zo J (fU ib J)<|zo J (bk hI)<|al<|ap<|aT (k:=42) J fun hN1=>bE<|Ns<|IJ 40 J<|IJ 15 J ?_;refine aJ (tB (Z:=fun ls1 i1 frag2 place2=>(e.Nodes.drop i1=ls1)∧uA r (rt r tl) i r1 ls1 i1 frag2 place2=some R) (Of:=fun _ i1 frag2 place2=>[jx aR 55 l c1 r1]) (Gf:=fun _ i1 frag2 place2=>[(7,tD qU r.1),(11,bY frag2),(12,bY place2),(13,bY (i:Int)),(15,tO aR l c1 r1),(31,eV (bR) q.Frags),(32,gA q.Frags),(33,bY (i:Int)),(43,gA e.Nodes),(44,bY (i1:Int))]) (fun i1 frag2 place2 h=>?_) (fun e1 tl1 ih1 i1 frag2 place2 h=>?_) e.Nodes 0 frag1 place1 ⟨J,h⟩) (aQ J)
    ·obtain⟨hx1,h⟩:=h
     refine av<|an<|zo J (eu J J)<|al<|ae<|bu (ht J) (dh hx1)<|bf ?_;refine ac (ac (aI ?_));refine ai<|an<|ax rfl<|ax rfl<|zo rfl (bg kD (su (ht rfl)))<|zo rfl (dn (ht rfl) hI)<|bM h fun e2 q_e2 h=>zo J (bW kD cD J (su (ht J)) (ht J) q_e2)<|zo J (bw mM gi J J)<|zo J (bj br J J)<|zo J (eQ J)<|al<|cz h J (fun h=>?_) (fun h=>?_)
     ·refine an<|ax J<|ax J<|zo J (bg kD (su (ht J)))<|zo J (dn (ht J) hI)<|aY J<|aY J<|al<|bf ?_;refine cF J (ac (ac (aI ?_)));refine aX ?_;exact bz (K (i:Int) (IntKind.i64.wrap ((r1.length:Int)-(1:Int))) h) (aQ J)
     ·refine aO<|af<|ai<|ah<|zo rfl (je (cx hx hN) rfl)<|ax rfl<|aC<|aX ?_;exact aM (aJ (ih (i+1) frag2 place2 ⟨cw hx,h⟩) (aQ J))
    ·obtain⟨hx1,h⟩:=h
     refine av<|an<|zo J (eu J J)<|al<|ae<|bt (ht J) (dg hx1)<|dF<|ae<|ap<|an<|ax J<|aY J<|al<|an<|ax J<|ax J<|ax J<|ax J ?_;refine bM h fun r2 q_r2 h=>zo J (aH YK (Up _ _ _ _ q_r2) ⟨(ht J),(ht J),(ht J),(su (ht J)),bm⟩)<|zo J (dD (ht J))<|al<|cz h J (fun h=>?_) (fun h=>?_)
     ·refine an<|ax J<|ax J<|aY J<|aY J<|al<|bf ?_;refine cF J (ac (ac (cF J (ac (cF J (ac (ac (aI ?_))))))));refine aX ?_;exact bz (K (i:Int) (i1:Int) h) (aQ J)
     ·refine aO<|af<|ai<|ah<|zo rfl (je (cx hx1 hN1) rfl)<|ax rfl<|aC ?_;exact aM (aJ (ih1 (i1+1) frag2 place2 ⟨cw hx1,h⟩) (aQ J))

end Go.Proofs.YtmogpgcfognefaaGreatDoor

