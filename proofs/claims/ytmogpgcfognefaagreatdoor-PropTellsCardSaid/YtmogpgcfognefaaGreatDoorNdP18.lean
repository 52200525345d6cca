/- di of this claim: P18. -/
import Derived.Test.YtmogpgcfognefaaGreatDoorNdT
import Derived.Test.YtmogpgcfognefaaGreatDoorNdP17
set_option linter.all false
namespace Go.Proofs.YtmogpgcfognefaaGreatDoor
open Go
set_option maxRecDepth 100000

theorem Rl(p:da)(c:bG)(frag:Int){R:(List aS)}(h:rM p c frag=some R):gk be 19 [tD ce p,tD bJ c,bY frag] false aR 55 R:=by
 refine gk.of Tryz.func19 J J J fun w0 S0=>an<|zo J (lK J)<|zo J (lK J)<|cm false aR 55<|zo J (aP tE)<|al<|an<|zo J (bw fY dp J J)<|zo J (bj nS J J)<|ax J<|bM h fun e q_e h=>zo J (gM kE fN J J J q_e)<|zo J (bj fN J J)<|aZ (r:=bR) (x:=IT) fN (fun _=>mu _) J fun b=>aE fN J ay J (ht J) (ht J)<|aW 7 J<|al<|an ?_;refine cm false aR 55<|zo J (aP tE)<|al<|ae<|an<|zo J (bw mO gJ J J)<|zo J (bj n8 J J)<|zo J (fU ib J)<|zo J (bk hI)<|al<|ap<|aT (k:=22) J fun hN=>bE<|dW<|pB ?_;refine aJ (me (Z:=fun ls i out l c1=>(e.Nodes.drop i=ls)∧bv p c e ls out=some R) (Of:=fun _ i out l c1=>[cY aR 55 l c1 out]) (Gf:=fun _ i out l c1=>[(3,bF ce p),(4,bF bJ c),(7,bF bR e),(8,mU l c1 out),(22,eV (aA) e.Nodes),(23,gA e.Nodes),(24,bY (i:Int))]) (fun i out l c1 h=>?_) (fun e1 tl ih i out l c1 h=>?_) e.Nodes 0 ([]:List aS) none 0 ⟨J,h⟩) (aQ J)
 ·obtain⟨hx,h⟩:=h
  refine av<|an<|zo J (eu J J)<|al<|ae<|bu (ht J) (dh hx)<|bf ?_;refine ac (ac (aI ?_));refine ai<|an<|ax rfl<|aY rfl<|al<|aj ?_;cases so h;exact iu J J
 ·obtain⟨hx,h⟩:=h
  refine av<|an<|zo J (eu J J)<|al<|ae<|bt (ht J) (dg hx)<|dF<|ae<|ap<|an<|zo J (gM ib db J J J (dl hx))<|zo J (bj db J J)<|aZ (r:=aA) (x:=yF) db (fun _=>ev _) J fun b1=>aE db J ay J (ht J) (ht J)<|aW 10 J<|al<|an<|zo J (cI (y:=xZ) cD tI eo (⟨_,_,_,_,_,J,fO,J,hI,J⟩)) ?_;refine aZ (r:=aR) (x:=vj) cD (fun _=>eo _) J fun b2=>aE cD J ay J (ht J) (ht J)<|al<|ae<|an<|zo J (bw eh cj J J)<|zo J (bj br J J)<|al<|ap<|an<|zo J (eQ J)<|aY J<|al<|cz h J (fun h=>?_) (fun h=>?_)
  ·refine an<|zo J (bw nV fI J J)<|zo J (bj vl J J)<|zo J (bw kj d8 J J)<|zo J (bj br J J)<|bM h fun e2 q_e2 h=>zo J (gM rC qi J J J q_e2)<|zo J (bw tp mp J J)<|zo J (bj bV J J)<|aY J<|al<|an<|ax J<|zo J (fU cZ J)<|zo J (dZ (ht J) hI)<|al<|cz h J (fun h=>?_) (fun h=>?_)
   ·refine ah<|ax J<|zo J (cI (y:=(⟨(2:Int),e2.Keys⟩:aS)) cD tI eo (⟨_,_,_,_,_,J,fO,J,hI,⟨_,_,_,_,_,J,uT,J,(ht J),J⟩⟩))<|aE cD J ay J (ht J) (ht J)<|aC<|af<|ai ?_;refine c0 (Z:=fun x=>ou (bv p c e tl) out x=some R) (Of:=fun x=>[cY aR 55 l c1 out,bx aR 55 b2 x]) (Gf:=fun x=>[(3,bF ce p),(4,bF bJ c),(7,bF bR e),(8,mU l c1 out),(11,tV (aN b2 0)),(22,eV (aA) e.Nodes),(23,gA e.Nodes),(24,bY (i:Int))]) (fun x h=>?_) (fun K=>?_)
    ·skip
     refine ah<|ax J<|zo J (bl cD J J bO (.tail _ (.head _)) (ht J))<|zo J (ba (r:=aR) (ys:=[x]) (xs:=[.tmp 110]) kD cD J J J J J ⟨(ht J),bm⟩)<|bM h fun out1 q_out1 h=>cn cD J J J J kD J J (ht J) (ht J) q_out1 fun l1 c2=>aY J<|aC<|af<|ai<|ah<|zo rfl (je (cx hx hN) rfl)<|ax rfl<|aC<|aU<|aX ?_;exact aM (aJ (ih (i+1) out1 l1 c2 ⟨cw hx,h⟩) (aQ J))
    ·skip
     refine an<|zo J (bw mN gj J J)<|zo J (bj br J J)<|zo J (eQ J)<|al<|cz h J (fun h=>?_) (fun h=>?_)
     ·refine ah<|zo J (cI (y:=wi) cD tI eo (⟨_,_,_,_,_,J,fO,J,hI,J⟩))<|aE cD J ay J (ht J) (ht J)<|aC<|aU ?_;exact bz (K wi h) (aQ J)
     ·refine aO<|aU ?_;exact bz (K (⟨(2:Int),e2.Keys⟩:aS) h) (aQ J)
   ·refine aO<|af<|ai ?_;refine c0 (Z:=fun x1=>qu (bv p c e tl) out x1=some R) (Of:=fun x1=>[cY aR 55 l c1 out,bx aR 55 b2 x1]) (Gf:=fun x1=>[(3,bF ce p),(4,bF bJ c),(7,bF bR e),(8,mU l c1 out),(11,tV (aN b2 0)),(22,eV (aA) e.Nodes),(23,gA e.Nodes),(24,bY (i:Int))]) (fun x1 h=>?_) (fun K1=>?_)
    ·skip
     refine ah<|ax J<|zo J (bl cD J J bO (.tail _ (.head _)) (ht J))<|zo J (ba (r:=aR) (ys:=[x1]) (xs:=[.tmp 110]) kD cD J J J J J ⟨(ht J),bm⟩)<|bM h fun out2 q_out2 h=>cn cD J J J J kD J J (ht J) (ht J) q_out2 fun l2 c3=>aY J<|aC<|af<|ai<|ah<|zo rfl (je (cx hx hN) rfl)<|ax rfl<|aC<|aU<|aX ?_;exact aM (aJ (ih (i+1) out2 l2 c3 ⟨cw hx,h⟩) (aQ J))
    ·skip
     refine an<|zo J (bw mN gj J J)<|zo J (bj br J J)<|zo J (eQ J)<|al<|cz h J (fun h=>?_) (fun h=>?_)
     ·refine ah<|zo J (cI (y:=wi) cD tI eo (⟨_,_,_,_,_,J,fO,J,hI,J⟩))<|aE cD J ay J (ht J) (ht J)<|aC<|aU ?_;exact bz (K1 wi h) (aQ J)
     ·refine aO<|aU ?_;exact bz (K1 xZ h) (aQ J)
  ·refine an<|zo J (eQ J)<|aY J<|al<|cz h J (fun h=>?_) (fun h=>?_)
   ·refine an<|zo J (bw fY dp J J)<|zo J (bj nS J J)<|zo J (bw kj d8 J J)<|zo J (bj br J J)<|bM h fun e3 q_e3 h=>zo J (gM kE fN J J J q_e3)<|zo J (bj fN J J)<|aZ (r:=bR) (x:=IT) fN (fun _=>mu _) J fun b3=>aE fN J ay J (ht J) (ht J)<|aW 13 J<|al<|an<|zo J (cI (y:=Ti) cD tI eo (⟨_,_,_,_,_,J,fO,J,hI,J⟩))<|aE cD J ay J (ht J) (ht J)<|al<|an<|zo J (bw pK ju J J)<|zo J (bj br J J) ?_;refine zo J (eQ J)<|al<|cz h J (fun h=>?_) (fun h=>?_)
    ·refine ah<|zo J (bw uF o7 J J)<|zo J (bj bV J J)<|zo J (cI (y:=(⟨(2:Int),e3.Cols⟩:aS)) cD tI eo (⟨_,_,_,_,_,J,fO,J,hI,⟨_,_,_,_,_,J,uT,J,(ht J),J⟩⟩))<|aE cD J ay J (ht J) (ht J)<|aC<|af<|ai ?_;refine c0 (Z:=fun x2=>qt (bv p c e tl) out x2=some R) (Of:=fun x2=>[cY aR 55 l c1 out,bx aR 55 b2 x2]) (Gf:=fun x2=>[(3,bF ce p),(4,bF bJ c),(7,bF bR e),(8,mU l c1 out),(11,tV (aN b2 0)),(22,eV (aA) e.Nodes),(23,gA e.Nodes),(24,bY (i:Int))]) (fun x2 h=>?_) (fun K2=>?_)
     ·skip
      refine ah<|ax J<|zo J (bl cD J J bO (.tail _ (.head _)) (ht J))<|zo J (ba (r:=aR) (ys:=[x2]) (xs:=[.tmp 110]) kD cD J J J J J ⟨(ht J),bm⟩)<|bM h fun out3 q_out3 h=>cn cD J J J J kD J J (ht J) (ht J) q_out3 fun l3 c4=>aY J<|aC<|af<|ai<|ah<|zo rfl (je (cx hx hN) rfl)<|ax rfl<|aC<|aU<|aX ?_;exact aM (aJ (ih (i+1) out3 l3 c4 ⟨cw hx,h⟩) (aQ J))
     ·skip
      refine an<|zo J (bw mN gj J J)<|zo J (bj br J J)<|zo J (eQ J)<|al<|cz h J (fun h=>?_) (fun h=>?_)
      ·refine ah<|zo J (cI (y:=wi) cD tI eo (⟨_,_,_,_,_,J,fO,J,hI,J⟩))<|aE cD J ay J (ht J) (ht J)<|aC<|aU ?_;exact bz (K2 wi h) (aQ J)
      ·refine aO<|aU ?_;exact bz (K2 (⟨(2:Int),e3.Cols⟩:aS) h) (aQ J)
    ·refine aO<|af<|ai ?_;refine c0 (Z:=fun x3=>qr (bv p c e tl) out x3=some R) (Of:=fun x3=>[cY aR 55 l c1 out,bx aR 55 b2 x3]) (Gf:=fun x3=>[(3,bF ce p),(4,bF bJ c),(7,bF bR e),(8,mU l c1 out),(11,tV (aN b2 0)),(22,eV (aA) e.Nodes),(23,gA e.Nodes),(24,bY (i:Int))]) (fun x3 h=>?_) (fun K3=>?_)
     ·skip
      refine ah<|ax J<|zo J (bl cD J J bO (.tail _ (.head _)) (ht J))<|zo J (ba (r:=aR) (ys:=[x3]) (xs:=[.tmp 110]) kD cD J J J J J ⟨(ht J),bm⟩)<|bM h fun out4 q_out4 h=>cn cD J J J J kD J J (ht J) (ht J) q_out4 fun l4 c5=>aY J<|aC<|af<|ai<|ah<|zo rfl (je (cx hx hN) rfl)<|ax rfl<|aC<|aU<|aX ?_;exact aM (aJ (ih (i+1) out4 l4 c5 ⟨cw hx,h⟩) (aQ J))
     ·skip
      refine an<|zo J (bw mN gj J J)<|zo J (bj br J J)<|zo J (eQ J)<|al<|cz h J (fun h=>?_) (fun h=>?_)
      ·refine ah<|zo J (cI (y:=wi) cD tI eo (⟨_,_,_,_,_,J,fO,J,hI,J⟩))<|aE cD J ay J (ht J) (ht J)<|aC<|aU ?_;exact bz (K3 wi h) (aQ J)
      ·refine aO<|aU ?_;exact bz (K3 Ti h) (aQ J)
   ·refine an<|zo J (eQ J)<|aY J<|al<|cz h J (fun h=>?_) (fun h=>?_)
    ·refine ae<|bM h fun e4 q_e4 h=>bM h fun e5 q_e5 h=>?_
     refine DX 13 [tc (mU l c1 out),tc (bF cC e1.A),tc (bY e1.A),tc (tV (kz l (e1.A.toNat*2+0))),tc (tD aR e4),tc (mU l c1 out),tc (bF cC e1.B),tc (bY e1.B),tc (tV (kz l (e1.B.toNat*2+0))),tc (tD aR e5),([10],fun s=>tV (aN ((s.getD 0 wk).h 0).2 0)),([11],fun s=>tV (aN ((s.getD 0 wk).h 0).2 0)),tc (BH)] [false,false,false,false,false,false,false,false,false,false,true,true,true] [([],fun _=>[bx aR 55 b2 xZ,cY aR 55 l c1 out]),([10],fun sg=>[bx aR 55 ((sg 10).h 0).2 vj,bx aR 55 b2 xZ,cY aR 55 l c1 out]),([11],fun sg=>[bx aR 55 ((sg 11).h 0).2 vj,bx aR 55 b2 xZ,cY aR 55 l c1 out]),([10,11],fun sg=>[bx aR 55 ((sg 11).h 0).2 vj,bx aR 55 ((sg 10).h 0).2 vj,bx aR 55 b2 xZ,cY aR 55 l c1 out]),([10,11,12],fun sg=>[bx aR 55 ((sg 10).h 0).2 e4,bx aR 55 ((sg 11).h 0).2 vj,bx aR 55 b2 xZ,cY aR 55 l c1 out])] (fun _=>J) mixed J J J J
      ⟨⟨[⟨8,fun _=>tV (aD l c1 out.length),none⟩],_,[[],[10],[11],[10,11]],J,⟨(fun _=>J),bm⟩,J,J,J,J,J,⟨fun sg=>ak J (cq J),fun sg=>ak J (cq J),fun sg=>ak J (cq J),fun sg=>ak J (cq J),bm⟩⟩,
      ⟨⟨[⟨10,fun _=>bF aA e1,none⟩],_,[[],[10],[11],[10,11]],J,⟨(fun _=>J),bm⟩,J,J,J,J,J,⟨fun sg=>ak J (bw iS dE J J),fun sg=>ak J (bw iS dE J J),fun sg=>ak J (bw iS dE J J),fun sg=>ak J (bw iS dE J J),bm⟩⟩,
      ⟨⟨[⟨68,fun _=>bF cC e1.A,some 1⟩],_,[[],[10],[11],[10,11]],J,⟨(fun _=>J),bm⟩,J,J,J,J,J,⟨fun sg=>ak J (bj br J J),fun sg=>ak J (bj br J J),fun sg=>ak J (bj br J J),fun sg=>ak J (bj br J J),bm⟩⟩,
      ⟨⟨[⟨67,fun _=>tV (aD l c1 out.length),some 0⟩,⟨69,fun _=>tD cC e1.A,some 2⟩],_,[[],[10],[11],[10,11]],J,⟨(fun _=>J),(fun _=>J),bm⟩,J,J,J,J,J,⟨fun sg=>ak J (bT kD cD (.tail _ (.head _)) (ht J) (ht J) q_e4),fun sg=>ak J (bT kD cD (.tail _ (.tail _ (.head _))) (ht J) (ht J) q_e4),fun sg=>ak J (bT kD cD (.tail _ (.tail _ (.head _))) (ht J) (ht J) q_e4),fun sg=>ak J (bT kD cD (.tail _ (.tail _ (.tail _ (.head _)))) (ht J) (ht J) q_e4),bm⟩⟩,
      ⟨⟨[⟨70,fun _=>tV (kz l (e1.A.toNat*2+0)),some 3⟩],_,[[],[10],[11],[10,11]],J,⟨(fun _=>J),bm⟩,J,J,J,J,J,⟨fun sg=>ak J (dj (r:=aR) (i:=e1.A) (foff:=0) cD J J bO J (.tail _ (.head _)) q_e4 (ht J)),fun sg=>ak J (dj (r:=aR) (i:=e1.A) (foff:=0) cD J J bO J (.tail _ (.tail _ (.head _))) q_e4 (ht J)),fun sg=>ak J (dj (r:=aR) (i:=e1.A) (foff:=0) cD J J bO J (.tail _ (.tail _ (.head _))) q_e4 (ht J)),fun sg=>ak J (dj (r:=aR) (i:=e1.A) (foff:=0) cD J J bO J (.tail _ (.tail _ (.tail _ (.head _)))) q_e4 (ht J)),bm⟩⟩,
      ⟨⟨[⟨8,fun _=>tV (aD l c1 out.length),none⟩],_,[[],[10],[11],[10,11],[10,11,12]],J,⟨(fun _=>J),bm⟩,J,J,J,J,J,⟨fun sg=>ak J (cq J),fun sg=>ak J (cq J),fun sg=>ak J (cq J),fun sg=>ak J (cq J),fun sg=>ak J (cq J),bm⟩⟩,
      ⟨⟨[⟨10,fun _=>bF aA e1,none⟩],_,[[],[10],[11],[10,11],[10,11,12]],J,⟨(fun _=>J),bm⟩,J,J,J,J,J,⟨fun sg=>ak J (bw kI ew J J),fun sg=>ak J (bw kI ew J J),fun sg=>ak J (bw kI ew J J),fun sg=>ak J (bw kI ew J J),fun sg=>ak J (bw kI ew J J),bm⟩⟩,
      ⟨⟨[⟨73,fun _=>bF cC e1.B,some 6⟩],_,[[],[10],[11],[10,11],[10,11,12]],J,⟨(fun _=>J),bm⟩,J,J,J,J,J,⟨fun sg=>ak J (bj br J J),fun sg=>ak J (bj br J J),fun sg=>ak J (bj br J J),fun sg=>ak J (bj br J J),fun sg=>ak J (bj br J J),bm⟩⟩,
      ⟨⟨[⟨72,fun _=>tV (aD l c1 out.length),some 5⟩,⟨74,fun _=>tD cC e1.B,some 7⟩],_,[[],[10],[11],[10,11],[10,11,12]],J,⟨(fun _=>J),(fun _=>J),bm⟩,J,J,J,J,J,⟨fun sg=>ak J (bT kD cD (.tail _ (.head _)) (ht J) (ht J) q_e5),fun sg=>ak J (bT kD cD (.tail _ (.tail _ (.head _))) (ht J) (ht J) q_e5),fun sg=>ak J (bT kD cD (.tail _ (.tail _ (.head _))) (ht J) (ht J) q_e5),fun sg=>ak J (bT kD cD (.tail _ (.tail _ (.tail _ (.head _)))) (ht J) (ht J) q_e5),fun sg=>ak J (bT kD cD (.tail _ (.tail _ (.tail _ (.head _)))) (ht J) (ht J) q_e5),bm⟩⟩,
      ⟨⟨[⟨75,fun _=>tV (kz l (e1.B.toNat*2+0)),some 8⟩],_,[[],[10],[11],[10,11],[10,11,12]],J,⟨(fun _=>J),bm⟩,J,J,J,J,J,⟨fun sg=>ak J (dj (r:=aR) (i:=e1.B) (foff:=0) cD J J bO J (.tail _ (.head _)) q_e5 (ht J)),fun sg=>ak J (dj (r:=aR) (i:=e1.B) (foff:=0) cD J J bO J (.tail _ (.tail _ (.head _))) q_e5 (ht J)),fun sg=>ak J (dj (r:=aR) (i:=e1.B) (foff:=0) cD J J bO J (.tail _ (.tail _ (.head _))) q_e5 (ht J)),fun sg=>ak J (dj (r:=aR) (i:=e1.B) (foff:=0) cD J J bO J (.tail _ (.tail _ (.tail _ (.head _)))) q_e5 (ht J)),fun sg=>ak J (dj (r:=aR) (i:=e1.B) (foff:=0) cD J J bO J (.tail _ (.tail _ (.tail _ (.head _)))) q_e5 (ht J)),bm⟩⟩,
      ⟨⟨[],_,[([],[10]),([11],[10,11])],J,bm,J,J,J,J,J,⟨fun sg=>ea J (kV (r:=aR) (x:=vj) cD (fun _=>eo _)),fun sg=>ea J (EffOK.post_imp (post:=fun x__=>(fun(sg:Nat→OI)=>[bx aR 55 ((sg 10).h 0).2 vj,bx aR 55 ((sg 11).h 0).2 vj,bx aR 55 b2 xZ,cY aR 55 l c1 out]) (Hg sg 10 x__)) (kV (r:=aR) (x:=vj) cD (fun _=>eo _)) (fun h=>ee.pick [1,0,2,3] J h)),bm⟩⟩,
      ⟨⟨[],_,[([],[11]),([10],[10,11])],J,bm,J,J,J,J,J,⟨fun sg=>ea J (kV (r:=aR) (x:=vj) cD (fun _=>eo _)),fun sg=>ea J (kV (r:=aR) (x:=vj) cD (fun _=>eo _)),bm⟩⟩,
      ⟨⟨[⟨14,fun sg=>tV (aN ((sg 10).h 0).2 0),some 10⟩,⟨71,fun _=>tD aR e4,some 4⟩],_,[([10,11],[10,11,12])],J,⟨(fun _=>J),(fun _=>J),bm⟩,J,J,J,J,J,⟨fun sg=>ea J (EffOK.fr1 (jv cD J (N7 ay) J (ht J) (ht J))),bm⟩⟩,
      bm⟩⟩⟩⟩⟩⟩⟩⟩⟩⟩⟩⟩⟩ (fun sg=>?_)
     refine(show RG _ _ _ _ [bx aR 55 ((sg 10).h 0).2 e4,bx aR 55 ((sg 11).h 0).2 vj,bx aR 55 b2 xZ,cY aR 55 l c1 out] _ from ?_);refine aW 14 J<|aE cD J ay J (ht J) (ht J)<|aW 15 J<|al<|an<|zo J (bw mM gi J J)<|zo J (bj br J J)<|zo J (eQ J)<|ax J<|bo J J (fun hg=>bw mM gi J J)<|bo J J (fun hg=>aF br J J (aG J hg))<|bo J J (fun hg=>bq (aG J hg) hI)<|zo J (hZ J J)<|ax J<|bM h fun t q_t h=>bo J J (fun hg=>bw oQ jt J J)<|bo J J (fun hg=>aF bV J J (aG J hg))<|bo J J (fun hg=>bw oQ jt J J)<|bo J J (fun hg=>aF bV J J (aG J hg)) ?_
     obtain⟨r,h1t,h0t⟩:=og q_t
     have q_rg:=fun hb=>(h1t hb).1
     refine bo J J (fun hg=>aH Pm (Dm _ _ (q_rg hg)) ⟨(aG J hg),(aG J hg),bm⟩)<|zo J (cu (ht J) (fun hb=>(aG J hb)) (fun hb=>(h1t hb).2) h0t)<|al<|cz h J (fun h=>?_) (fun h=>?_)
     ·refine ah<|zo J (bj cD J J)<|aE cD J ay J (ht J) (ht J)<|aC<|af<|ai ?_;refine c0 (Z:=fun x4=>qq (bv p c e tl) out x4=some R) (Of:=fun x4=>[cY aR 55 l c1 out,bx aR 55 b2 x4]) (Gf:=fun x4=>[(3,bF ce p),(4,bF bJ c),(7,bF bR e),(8,mU l c1 out),(11,tV (aN b2 0)),(22,eV (aA) e.Nodes),(23,gA e.Nodes),(24,bY (i:Int))]) (fun x4 h=>?_) (fun K4=>?_)
      ·skip
       refine ah<|ax J<|zo J (bl cD J J bO (.tail _ (.head _)) (ht J))<|zo J (ba (r:=aR) (ys:=[x4]) (xs:=[.tmp 110]) kD cD J J J J J ⟨(ht J),bm⟩)<|bM h fun out5 q_out5 h=>cn cD J J J J kD J J (ht J) (ht J) q_out5 fun l5 c6=>aY J<|aC<|af<|ai<|ah<|zo rfl (je (cx hx hN) rfl)<|ax rfl<|aC<|aU<|aX ?_;exact aM (aJ (ih (i+1) out5 l5 c6 ⟨cw hx,h⟩) (aQ J))
      ·skip
       refine an<|zo J (bw mN gj J J)<|zo J (bj br J J)<|zo J (eQ J)<|al<|cz h J (fun h=>?_) (fun h=>?_)
       ·refine ah<|zo J (cI (y:=wi) cD tI eo (⟨_,_,_,_,_,J,fO,J,hI,J⟩))<|aE cD J ay J (ht J) (ht J)<|aC<|aU ?_;exact bz (K4 wi h) (aQ J)
       ·refine aO<|aU ?_;exact bz (K4 e4 h) (aQ J)
     ·refine aO<|af<|ai ?_;refine c0 (Z:=fun x5=>qp (bv p c e tl) out x5=some R) (Of:=fun x5=>[cY aR 55 l c1 out,bx aR 55 b2 x5]) (Gf:=fun x5=>[(3,bF ce p),(4,bF bJ c),(7,bF bR e),(8,mU l c1 out),(11,tV (aN b2 0)),(22,eV (aA) e.Nodes),(23,gA e.Nodes),(24,bY (i:Int))]) (fun x5 h=>?_) (fun K5=>?_)
      ·skip
       refine ah<|ax J<|zo J (bl cD J J bO (.tail _ (.head _)) (ht J))<|zo J (ba (r:=aR) (ys:=[x5]) (xs:=[.tmp 110]) kD cD J J J J J ⟨(ht J),bm⟩)<|bM h fun out6 q_out6 h=>cn cD J J J J kD J J (ht J) (ht J) q_out6 fun l6 c7=>aY J<|aC<|af<|ai<|ah<|zo rfl (je (cx hx hN) rfl)<|ax rfl<|aC<|aU<|aX ?_;exact aM (aJ (ih (i+1) out6 l6 c7 ⟨cw hx,h⟩) (aQ J))
      ·skip
       refine an<|zo J (bw mN gj J J)<|zo J (bj br J J)<|zo J (eQ J)<|al<|cz h J (fun h=>?_) (fun h=>?_)
       ·refine ah<|zo J (cI (y:=wi) cD tI eo (⟨_,_,_,_,_,J,fO,J,hI,J⟩))<|aE cD J ay J (ht J) (ht J)<|aC<|aU ?_;exact bz (K5 wi h) (aQ J)
       ·refine aO<|aU ?_;exact bz (K5 xZ h) (aQ J)
    ·refine c0 (Z:=fun x6=>lg e (bv p c e tl) e1 out x6=some R) (Of:=fun x6=>[cY aR 55 l c1 out,bx aR 55 b2 xZ]) (Gf:=fun x6=>[(3,bF ce p),(4,bF bJ c),(7,bF bR e),(8,mU l c1 out),(10,bF aA e1),(11,tV (aN b2 0)),(22,eV (aA) e.Nodes),(23,gA e.Nodes),(24,bY (i:Int)),(93,gD x6)]) (fun x6 h=>?_) (fun K6=>?_)
     ·skip
      refine cz h J (fun h=>?_) (fun h=>?_)
      ·refine bM h fun e6 q_e6 h=>bM h fun r1 q_r1 h=>?_
       refine pr 7 (ts:=[tD aA e1,mU l c1 out,bF cC e1.A,bY e1.A,tV (kz l (e1.A.toNat*2+0)),tD aR e6,tD aR r1]) mixed J J J
        ⟨ic 10 J J J (bj db J J),
        ⟨ic 8 J J J (cq J),
        ⟨ic 10 J J J (bw iS dE J J),
        ⟨dc 100 2 J J J (bj br J J),
        ⟨eT 99 1 101 3 J J J J (bT kD cD (.head _) (ht J) (ht J) q_e6),
        ⟨dc 102 4 J J J (dj (r:=aR) (i:=e1.A) (foff:=0) cD J J bO J (.head _) q_e6 (ht J)),
        ⟨eT 98 0 103 5 J J J J (aH YD (Uk _ _ q_r1) ⟨(ht J),(ht J),bm⟩),
        bm⟩⟩⟩⟩⟩⟩⟩ ?_
       refine cg<|aE cD J ay J (ht J) (ht J)<|aC<|af<|ai ?_;refine c0 (Z:=fun x7=>qo (bv p c e tl) out x7=some R) (Of:=fun x7=>[cY aR 55 l c1 out,bx aR 55 b2 x7]) (Gf:=fun x7=>[(3,bF ce p),(4,bF bJ c),(7,bF bR e),(8,mU l c1 out),(11,tV (aN b2 0)),(22,eV (aA) e.Nodes),(23,gA e.Nodes),(24,bY (i:Int))]) (fun x7 h=>?_) (fun K7=>?_)
       ·skip
        refine ah<|ax J<|zo J (bl cD J J bO (.tail _ (.head _)) (ht J))<|zo J (ba (r:=aR) (ys:=[x7]) (xs:=[.tmp 110]) kD cD J J J J J ⟨(ht J),bm⟩)<|bM h fun out7 q_out7 h=>cn cD J J J J kD J J (ht J) (ht J) q_out7 fun l7 c8=>aY J<|aC<|af<|ai<|ah<|zo rfl (je (cx hx hN) rfl)<|ax rfl<|aC<|aU<|aX ?_;exact aM (aJ (ih (i+1) out7 l7 c8 ⟨cw hx,h⟩) (aQ J))
       ·skip
        refine an<|zo J (bw mN gj J J)<|zo J (bj br J J)<|zo J (eQ J)<|al<|cz h J (fun h=>?_) (fun h=>?_)
        ·refine ah<|zo J (cI (y:=wi) cD tI eo (⟨_,_,_,_,_,J,fO,J,hI,J⟩))<|aE cD J ay J (ht J) (ht J)<|aC<|aU ?_;exact bz (K7 wi h) (aQ J)
        ·refine aO<|aU ?_;exact bz (K7 r1 h) (aQ J)
      ·refine ah<|ax J<|zo J (bw iS dE J J)<|zo J (bj br J J)<|bM h fun e7 q_e7 h=>zo J (bT kD cD (.head _) (ht J) (ht J) q_e7)<|zo J (dj (r:=aR) (i:=e1.A) (foff:=0) cD J J bO J (.head _) q_e7 (ht J))<|cg<|aE cD J ay J (ht J) (ht J)<|aC<|af<|ai ?_;refine c0 (Z:=fun x8=>qn (bv p c e tl) out x8=some R) (Of:=fun x8=>[cY aR 55 l c1 out,bx aR 55 b2 x8]) (Gf:=fun x8=>[(3,bF ce p),(4,bF bJ c),(7,bF bR e),(8,mU l c1 out),(11,tV (aN b2 0)),(22,eV (aA) e.Nodes),(23,gA e.Nodes),(24,bY (i:Int))]) (fun x8 h=>?_) (fun K8=>?_)
       ·skip
        refine ah<|ax J<|zo J (bl cD J J bO (.tail _ (.head _)) (ht J))<|zo J (ba (r:=aR) (ys:=[x8]) (xs:=[.tmp 110]) kD cD J J J J J ⟨(ht J),bm⟩)<|bM h fun out8 q_out8 h=>cn cD J J J J kD J J (ht J) (ht J) q_out8 fun l8 c9=>aY J<|aC<|af<|ai<|ah<|zo rfl (je (cx hx hN) rfl)<|ax rfl<|aC<|aU<|aX ?_;exact aM (aJ (ih (i+1) out8 l8 c9 ⟨cw hx,h⟩) (aQ J))
       ·skip
        refine an<|zo J (bw mN gj J J)<|zo J (bj br J J)<|zo J (eQ J)<|al<|cz h J (fun h=>?_) (fun h=>?_)
        ·refine ah<|zo J (cI (y:=wi) cD tI eo (⟨_,_,_,_,_,J,fO,J,hI,J⟩))<|aE cD J ay J (ht J) (ht J)<|aC<|aU ?_;exact bz (K8 wi h) (aQ J)
        ·refine aO<|aU ?_;exact bz (K8 e7 h) (aQ J)
     ·skip
      refine an<|zo J (eQ J)<|aY J<|al<|cz h J (fun h=>?_) (fun h=>?_)
      ·refine aO<|aU ?_;exact bz (K6 (e1.Op==(5:Int)) h) (aQ J)
      ·refine an<|zo J (eQ J)<|aY J<|al<|cz h J (fun h=>?_) (fun h=>?_)
       ·refine aO<|aU ?_;exact bz (K6 (e1.Op==(4:Int)) h) (aQ J)
       ·refine an<|zo J (eQ J)<|aY J<|al<|cz h J (fun h=>?_) (fun h=>?_)
        ·refine aO<|aU ?_;exact bz (K6 (e1.Op==(10:Int)) h) (aQ J)
        ·refine ah<|zo J (eQ J)<|aY J<|aC<|aU ?_;exact bz (K6 (e1.Op==(11:Int)) h) (aQ J)
theorem Uv(p:da)(c:bG)(frag:Int){R:(List aS)}(h:rM p c frag=some R):bh be 19 [tD ce p,tD bJ c,bY frag] (eV (aR) R):=(Rl _ _ _ h).spec

theorem Uu(p:da){R:(List Int)×Int}(h:vA p=some R):bh be 21 [tD ce p] (tT [ji R.1,bY R.2]):=by
 refine bh.of Tryz.func21 J J J fun w0 S0=>an<|zo J (lK J)<|zo J (aP (show aL _ _ _ pD from lJ))<|zo J (dv)<|al<|ae<|an<|zo J (bw fY dp J J)<|zo J (bj nS J J)<|zo J (fU kE J)<|zo J (eQ J)<|al<|cz h J (fun h=>?_) (fun h=>?_)
 ·refine an<|zo J (aP (show aL _ _ _ pD from lJ))<|zo J (dv)<|al<|aj<|aa ?_;cases so h;exact cy J J J
 ·refine dF<|an<|zo J (bw fY dp J J)<|zo J (bj nS J J)<|zo J (bw fY dp J J)<|zo J (bj nS J J)<|zo J (fU kE J)<|zo J (dn (ht J) hI)<|bM h fun e q_e h=>zo J (gM kE fN J J J q_e)<|zo J (bw mO gJ J J)<|zo J (bj n8 J J)<|bM h fun r q_r h=>zo J (aH WZ (O3 _ q_r) ⟨(ht J),bm⟩)<|ax J<|zo J (iA J J)<|zo J (iA J J)<|zo J (iA J J)<|aY J<|aY J<|aY J<|aC ?_;refine ai<|ae<|an<|ax rfl<|zo rfl (uP rfl)<|al<|cz h rfl (fun h=>?_) (fun h=>?_)
  ·refine an<|ax J<|zo J (aP (show aL _ _ _ pD from lJ))<|aY J<|al<|aj<|aa ?_;cases so h;exact cy J J J
  ·refine dF<|an<|ax J<|ax J<|zo J (fU n7 J)<|zo J (dn (ht J) hI)<|bM h fun e1 q_e1 h=>zo J (gM n7 bV J J J q_e1)<|zo J (bj bV J J)<|aY J<|zo J (dv)<|al<|aj ?_;cases so h;exact cy J J J

theorem V2(p:bG)(y:da)(numbers:(List Int)){R:Bool}(h:sj p y numbers=some R):bh be 5 [tD bJ p,tD ce y,ji numbers] (gD R):=by
 refine bh.of Tryz.func5 J J J fun w0 S0=>an<|zo J (lK J)<|zo J (lK J)<|zo J (ei)<|al<|ae<|an<|bM h fun r q_r h=>zo J (aH cb8 (VT q_r) trivial)<|zo J (dD (ht J))<|al<|cz h J (fun h=>?_) (fun h=>?_)
 ·refine an<|zo J (ei)<|al<|aj<|aa ?_;cases so h;exact aB J J
 ·refine dF<|ae<|bM h fun r1 q_r1 h=>bM h fun r2 q_r2 h=>?_
  refine DX 6 [tc (tD bJ p),tc (tD bJ r1),tc (tD ce y),tc (tD ce r2),([4],fun s=>tV (aN ((s.getD 0 wk).h 0).2 0)),([5],fun s=>tV (aN ((s.getD 0 wk).h 0).2 0))] [false,false,false,false,true,true] [([],fun _=>[]),([4],fun sg=>[bx bJ 24 ((sg 4).h 0).2 wr]),([5],fun sg=>[bx ce 37 ((sg 5).h 0).2 Ad]),([4,5],fun sg=>[bx ce 37 ((sg 5).h 0).2 Ad,bx bJ 24 ((sg 4).h 0).2 wr])] (fun _=>J) mixed J J J J
   ⟨⟨[⟨3,fun _=>bF bJ p,none⟩],_,[[],[4],[5],[4,5]],J,⟨(fun _=>J),bm⟩,J,J,J,J,J,⟨fun sg=>ak J (bj n9 J J),fun sg=>ak J (bj n9 J J),fun sg=>ak J (bj n9 J J),fun sg=>ak J (bj n9 J J),bm⟩⟩,
   ⟨⟨[⟨28,fun _=>tD bJ p,some 0⟩],_,[[],[4],[5],[4,5]],J,⟨(fun _=>J),bm⟩,J,J,J,J,J,⟨fun sg=>ak J (aH XK (Le _ q_r1) ⟨(ht J),bm⟩),fun sg=>ak J (aH XK (Le _ q_r1) ⟨(ht J),bm⟩),fun sg=>ak J (aH XK (Le _ q_r1) ⟨(ht J),bm⟩),fun sg=>ak J (aH XK (Le _ q_r1) ⟨(ht J),bm⟩),bm⟩⟩,
   ⟨⟨[⟨4,fun _=>bF ce y,none⟩],_,[[],[4],[5],[4,5]],J,⟨(fun _=>J),bm⟩,J,J,J,J,J,⟨fun sg=>ak J (bj mg J J),fun sg=>ak J (bj mg J J),fun sg=>ak J (bj mg J J),fun sg=>ak J (bj mg J J),bm⟩⟩,
   ⟨⟨[⟨30,fun _=>tD ce y,some 2⟩],_,[[],[4],[5],[4,5]],J,⟨(fun _=>J),bm⟩,J,J,J,J,J,⟨fun sg=>ak J (aH So (GD _ q_r2) ⟨(ht J),bm⟩),fun sg=>ak J (aH So (GD _ q_r2) ⟨(ht J),bm⟩),fun sg=>ak J (aH So (GD _ q_r2) ⟨(ht J),bm⟩),fun sg=>ak J (aH So (GD _ q_r2) ⟨(ht J),bm⟩),bm⟩⟩,
   ⟨⟨[],_,[([],[4]),([5],[4,5])],J,bm,J,J,J,J,J,⟨fun sg=>ea J (kV (r:=bJ) (x:=wr) n9 (fun _=>oe _)),fun sg=>ea J (EffOK.post_imp (post:=fun x__=>(fun(sg:Nat→OI)=>[bx bJ 24 ((sg 4).h 0).2 wr,bx ce 37 ((sg 5).h 0).2 Ad]) (Hg sg 4 x__)) (kV (r:=bJ) (x:=wr) n9 (fun _=>oe _)) (fun h=>ee.pick [1,0] J h)),bm⟩⟩,
   ⟨⟨[],_,[([],[5]),([4],[4,5])],J,bm,J,J,J,J,J,⟨fun sg=>ea J (kV (r:=ce) (x:=Ad) mg (fun _=>tK _)),fun sg=>ea J (kV (r:=ce) (x:=Ad) mg (fun _=>tK _)),bm⟩⟩,
   bm⟩⟩⟩⟩⟩⟩ (fun sg=>?_)
  refine(show RG _ _ _ _ [bx ce 37 ((sg 5).h 0).2 Ad,bx bJ 24 ((sg 4).h 0).2 wr] _ from ?_);refine cg<|aE n9 J ay J (ht J) (ht J)<|aW 7 J<|aE mg J ay J (ht J) (ht J)<|aW 8 J<|al<|an<|zo J (bj mg J J)<|zo J (bj n9 J J)<|bM h fun r3 q_r3 h=>zo J (aH YV (Ux _ _ q_r3) ⟨(ht J),(ht J),bm⟩)<|ax J<|zo J (iA J J)<|zo J (iA J J)<|zo J (iA J J)<|aY J<|aY J<|aY J<|al<|ae<|ae ?_;refine ah<|ax J<|zo J (fU cZ J)<|zo J (bk hI)<|al ?_;refine AQ (Z:=lv r2=some R) (Of:=[]) (Gf:=[(8,bF ce r2)]) (fun h=>?_) (fun K=>?_)
  ·skip
   refine ai<|an<|zo rfl (bj mg rfl rfl)<|bM h fun r4 q_r4 h=>zo J (aH YS (Uu _ q_r4) ⟨(ht J),bm⟩)<|ax J<|zo J (iA J J)<|zo J (iA J J)<|aY J<|aY J<|al<|ae<|an<|zo J (bw fY dp J J)<|zo J (bj nS J J)<|zo J (fU kE J)<|zo J (eQ J)<|al<|cz h J (fun h=>?_) (fun h=>?_)
   ·refine an<|ax J<|zo J (eQ J)<|ax J<|bo J J (fun hg=>cq J)<|bo J J (fun hg=>bg cZ (aG J hg))<|bo J J (fun hg=>bq (aG J hg) hI)<|zo J (hZ J J)<|aY J<|al<|aj<|aa ?_;cases so h;exact aB J J
   ·refine dF<|an<|zo J (bw fY dp J J)<|zo J (bj nS J J)<|zo J (bw fY dp J J)<|zo J (bj nS J J)<|zo J (fU kE J)<|zo J (dn (ht J) hI)<|bM h fun e q_e h=>zo J (gM kE fN J J J q_e)<|zo J (bw mO gJ J J)<|zo J (bj n8 J J)<|bM h fun r5 q_r5 h=>zo J (aH UL (JY _ q_r5) ⟨(ht J),bm⟩)<|ax J<|zo J (iA J J)<|zo J (iA J J)<|aY J<|aY J<|al<|ae ?_;refine an<|ax J<|zo J (cS (ht J) hI)<|al<|cz h J (fun h=>?_) (fun h=>?_)
    ·refine an<|ax J<|zo J (eQ J)<|ax J<|bo J J (fun hg=>cq J)<|bo J J (fun hg=>bg cZ (aG J hg))<|bo J J (fun hg=>bq (aG J hg) hI)<|zo J (hZ J J)<|aY J<|al<|aj<|aa ?_;cases so h;exact aB J J
    ·refine dF<|an<|ax J<|zo J (eQ J)<|ax J<|bM h fun t q_t h=>bo J J (fun hg=>cq J)<|bo J J (fun hg=>cq J)<|bo J J (fun hg=>cq J)<|bo J J (fun hg=>bg n7 (aG J hg))<|bo J J (fun hg=>dn (aG J hg) hI) ?_
     obtain⟨e1,h1t,h0t⟩:=og q_t
     have q_e1g:=fun hb=>(h1t hb).1
     refine bo J J (fun hg=>bW n7 bV J (aG J hg) (aG J hg) (q_e1g hg))<|bo J J (fun hg=>aF bV J J (aG J hg)) ?_
     obtain⟨r6,h1t⟩:=G1 (fun hb=>(h1t hb).2)
     have q_r6g:=fun hb=>(h1t hb).1
     refine bo J J (fun hg=>aH Pm (Dm _ _ (q_r6g hg)) ⟨(aG J hg),(aG J hg),bm⟩)<|zo J (cu (ht J) (fun hb=>(aG J hb)) (fun hb=>(h1t hb).2) h0t)<|aY J<|al<|aj ?_;cases so h;exact aB J J
  ·skip
   refine aT (k:=39) J fun hN=>bE ?_;refine aJ (dB (Z:=fun ls i=>(numbers.drop i=ls)∧gv r1 r2 r3 ls i=some R) (Of:=fun _ i=>[]) (Gf:=fun _ i=>[(7,bF bJ r1),(8,bF ce r2),(11,bY r3.2.2),(39,ji numbers),(40,gA numbers),(41,bY (i:Int))]) (fun i h=>?_) (fun e2 tl ih i h=>?_) numbers 0 ⟨J,h⟩) (aQ J)
   ·obtain⟨hx,h⟩:=h
    refine av<|an<|zo J (eu J J)<|al<|ae<|bu (ht J) (dh hx)<|bf ?_;refine ac (ac (aI ?_));exact bz (K h) (aQ J)
   ·obtain⟨hx,h⟩:=h
    refine av<|an<|zo J (eu J J)<|al<|ae<|bt (ht J) (dg hx)<|dF<|ae<|ap<|an<|ax J<|zo J (gM cZ br J J J (dl hx))<|zo J (bj br J J)<|aY J<|aY J<|al<|ae<|an ?_;refine ax J<|zo J (eQ J)<|al<|cz h J (fun h=>?_) (fun h=>?_)
    ·refine bf ?_;refine ac (cF J (ac (ac (aI ?_))));exact bz (K h) (aQ J)
    ·refine dF<|an<|zo J (bj mg J J)<|zo J (bj n9 J J)<|ax J<|bM h fun r7 q_r7 h=>zo J (aH Xq (O7 _ _ _ q_r7) ⟨(ht J),(ht J),(ht J),bm⟩)<|ax J<|zo J (iA J J)<|zo J (iA J J)<|aY J<|aY J<|al<|ae<|ap<|an<|ax J<|zo J (uP J)<|aY J<|aC ?_;refine ai<|cz h rfl (fun h=>?_) (fun h=>?_)
     ·refine an<|ax J<|ax J<|zo J (cA (ht J) (ht J))<|ax J<|bX J J (fun hg=>cq J)<|bX J J (fun hg=>bg kD (aG J hg))<|bX J J (fun hg=>cA (aG J hg) hI)<|zo J (lH J J)<|al<|cz h J (fun h=>?_) (fun h=>?_)
      ·refine an<|zo J (ei)<|al<|aj ?_;refine am (aa (am (aa (aa (am (aa ?_))))));cases so h;exact aB J J
      ·refine aO<|af<|ai<|an<|zo rfl (bj mg rfl rfl)<|ax rfl<|bM h fun r8 q_r8 h=>zo J (aH Pq (Dn _ _ q_r8) ⟨(ht J),(ht J),bm⟩)<|ax J<|zo J (iA J J)<|zo J (iA J J)<|zo J (iA J J)<|aY J<|aY J<|aY J<|al<|an<|zo J (bj mg J J)<|ax J<|bM h fun r9 q_r9 h=>zo J (aH Sn (GB _ _ q_r9) ⟨(ht J),(ht J),bm⟩) ?_;refine ax J<|zo J (iA J J)<|zo J (iA J J)<|zo J (iA J J)<|aY J<|aY J<|aY J<|al<|an<|ax J<|ax J<|zo J (cA (ht J) (ht J))<|ax J<|bX J J (fun hg=>cq J)<|bX J J (fun hg=>cq J)<|bX J J (fun hg=>cA (aG J hg) (aG J hg))<|zo J (lH J J)<|ax J<|bX J J (fun hg=>cq J)<|bX J J (fun hg=>cq J)<|bX J J (fun hg=>zj FD (aG J hg) (aG J hg))<|zo J (lH J J) ?_;refine al<|cz h J (fun h=>?_) (fun h=>?_)
       ·refine an<|zo J (ei)<|al<|aj ?_;refine am (aa (aa (am (aa ?_))));cases so h;exact aB J J
       ·refine aO<|af<|ai<|ah<|zo rfl (je (cx hx hN) rfl)<|ax rfl<|aC ?_;exact aM (aJ (ih (i+1) ⟨cw hx,h⟩) (aQ J))
     ·refine an<|ax J<|zo J (eg (ht J) hI)<|ax J<|bX J J (fun hg=>cq J)<|bX J J (fun hg=>bw fY dp J J)<|bX J J (fun hg=>aF nS J J (aG J hg))<|bX J J (fun hg=>bg kE (aG J hg))<|bX J J (fun hg=>cS (aG J hg) (aG J hg))<|zo J (lH J J)<|aY J<|al<|cz h J (fun h=>?_) (fun h=>?_)
      ·refine an<|ax J<|zo J (uP J)<|ax J<|bX J J (fun hg=>cq J)<|bX J J (fun hg=>bg kD (aG J hg))<|bX J J (fun hg=>cA (aG J hg) hI)<|zo J (lH J J)<|al<|cz h J (fun h=>?_) (fun h=>?_)
       ·refine an<|zo J (ei)<|al<|aj ?_;refine am (aa (am (aa (aa (am (aa ?_))))));cases so h;exact aB J J
       ·refine aO<|af<|ai<|an<|zo rfl (bj mg rfl rfl)<|ax rfl<|bM h fun r10 q_r10 h=>zo J (aH Pq (Dn _ _ q_r10) ⟨(ht J),(ht J),bm⟩)<|ax J<|zo J (iA J J)<|zo J (iA J J)<|zo J (iA J J)<|aY J<|aY J<|aY J<|al<|an<|zo J (bj mg J J)<|ax J<|bM h fun r11 q_r11 h=>zo J (aH Sn (GB _ _ q_r11) ⟨(ht J),(ht J),bm⟩) ?_;refine ax J<|zo J (iA J J)<|zo J (iA J J)<|zo J (iA J J)<|aY J<|aY J<|aY J<|al<|an<|ax J<|ax J<|zo J (cA (ht J) (ht J))<|ax J<|bX J J (fun hg=>cq J)<|bX J J (fun hg=>cq J)<|bX J J (fun hg=>cA (aG J hg) (aG J hg))<|zo J (lH J J)<|ax J<|bX J J (fun hg=>cq J)<|bX J J (fun hg=>cq J)<|bX J J (fun hg=>zj FD (aG J hg) (aG J hg))<|zo J (lH J J) ?_;refine al<|cz h J (fun h=>?_) (fun h=>?_)
        ·refine an<|zo J (ei)<|al<|aj ?_;refine am (aa (aa (am (aa ?_))));cases so h;exact aB J J
        ·refine aO<|af<|ai<|ah<|zo rfl (je (cx hx hN) rfl)<|ax rfl<|aC ?_;exact aM (aJ (ih (i+1) ⟨cw hx,h⟩) (aQ J))
      ·refine an<|ax J<|zo J (uP J)<|ax J<|bM h fun t1 q_t1 h=>bX J J (fun hg=>cq J)<|bX J J (fun hg=>bj mg J J)<|bX J J (fun hg=>bj n9 J J)<|bX J J (fun hg=>cq J) ?_
       obtain⟨r12,h1t1,h0t1⟩:=og q_t1
       have q_r12g:=fun hb=>(h1t1 hb).1
       refine bX J J (fun hg=>aH YT (Uv _ _ _ (q_r12g hg)) ⟨(aG J hg),(aG J hg),(aG J hg),bm⟩) ?_
       obtain⟨r13,h1t1⟩:=G1 (fun hb=>(h1t1 hb).2)
       have q_r13g:=fun hb=>(h1t1 hb).1
       refine bX J J (fun hg=>aH YU (Uw _ _ (q_r13g hg)) ⟨(aG J hg),(aG J hg),bm⟩)<|bX J J (fun hg=>dD (aG J hg))<|zo J (dY (ht J) (fun hb=>(aG J (mW hb))) (fun hb=>(h1t1 hb).2) h0t1)<|aY J<|al<|cz h J (fun h=>?_) (fun h=>?_)
       ·refine an<|zo J (ei)<|al<|aj ?_;refine am (aa (am (aa (aa (am (aa ?_))))));cases so h;exact aB J J
       ·refine aO<|af<|ai<|an<|zo rfl (bj mg rfl rfl)<|ax rfl<|bM h fun r14 q_r14 h=>zo J (aH Pq (Dn _ _ q_r14) ⟨(ht J),(ht J),bm⟩)<|ax J<|zo J (iA J J)<|zo J (iA J J)<|zo J (iA J J)<|aY J<|aY J<|aY J<|al<|an<|zo J (bj mg J J)<|ax J<|bM h fun r15 q_r15 h=>zo J (aH Sn (GB _ _ q_r15) ⟨(ht J),(ht J),bm⟩) ?_;refine ax J<|zo J (iA J J)<|zo J (iA J J)<|zo J (iA J J)<|aY J<|aY J<|aY J<|al<|an<|ax J<|ax J<|zo J (cA (ht J) (ht J))<|ax J<|bX J J (fun hg=>cq J)<|bX J J (fun hg=>cq J)<|bX J J (fun hg=>cA (aG J hg) (aG J hg))<|zo J (lH J J)<|ax J<|bX J J (fun hg=>cq J)<|bX J J (fun hg=>cq J)<|bX J J (fun hg=>zj FD (aG J hg) (aG J hg))<|zo J (lH J J) ?_;refine al<|cz h J (fun h=>?_) (fun h=>?_)
        ·refine an<|zo J (ei)<|al<|aj ?_;refine am (aa (aa (am (aa ?_))));cases so h;exact aB J J
        ·refine aO<|af<|ai<|ah<|zo rfl (je (cx hx hN) rfl)<|ax rfl<|aC ?_;exact aM (aJ (ih (i+1) ⟨cw hx,h⟩) (aQ J))

end Go.Proofs.YtmogpgcfognefaaGreatDoor

