/- cF of this claim: P9. -/
import Derived.Test.YtmogpgcfognefaaGreatDoorNbT
import Derived.Test.YtmogpgcfognefaaGreatDoorNbP8
set_option linter.all false
namespace Go.Proofs.YtmogpgcfognefaaGreatDoor
open Go
set_option maxRecDepth 100000

theorem Jo(e:bk)(left:Int){R:Int×Int×Bool}(h:zk e left=some R):bg aP 154 [tD bc e,cd left] (tT [cd R.1,cd R.2.1,ij R.2.2]):=by
 refine bg.of Tryz.func154 J J J fun w0 S0=>aq<|zo J (mp J)<|zo J (fg)<|zo J (fg)<|zo J (fP)<|ap<|ae<|aq<|zo J (bE gj J J)<|bP h fun r q_r h=>zo J (aO JX (AA _ q_r) ⟨(ht J),be⟩)<|zo J (s3 J)<|aA J<|cD J J (fun hg=>bZ fv c9 J J)<|cD J J (fun hg=>aL mo J J (aI J hg))<|cD J J (fun hg=>bI jv (aI J hg))<|cD J J (fun hg=>dd (aI J hg) hI)<|zo J (pn J J)<|aA J<|bP h fun t q_t h=>?_;refine cD J J (fun hg=>bZ fv c9 J J)<|cD J J (fun hg=>aL mo J J (aI J hg)) ?_
 obtain⟨e1,h1t,h0t⟩:=og q_t
 have q_e1g:=fun hb=>(h1t hb).1
 refine cD J J (fun hg=>cq jv dy J (aI J hg) hI (q_e1g hg))<|cD J J (fun hg=>cB js J eI J (aI J hg))<|cD J J (fun hg=>aL bJ J J (aI J hg))<|cD J J (fun hg=>dd (aI J hg) hI)<|zo J (eH (ht J) (fun hb=>(aI J (mR hb))) (fun hb=>(h1t hb).2) h0t)<|ap<|dQ h J (fun h=>?_) (fun h=>?_)
 ·refine aq<|zo J (fg)<|zo J (fg)<|zo J (fP)<|ap<|am<|aa ?_;cases so h;exact mK J J J J
 ·refine eK<|ae<|bP h fun e2 q_e2 h=>bP h fun e3 q_e3 h=>?_
  refine HN 11 [tc (bB E3 e.Nodes),tc (fX (aQ) e.Nodes),tc (bB aQ e2),tc (tD aQ e2),tc (bB E3 e.Nodes),tc (fX (aQ) e.Nodes),tc (bB aQ e3),tc (tD aQ e3),([8],fun s=>tV (aD ((s.getD 0 sa).h 0).2 0)),([9],fun s=>tV (aD ((s.getD 0 sa).h 0).2 0)),tc (wE)] [false,false,false,false,false,false,false,false,true,true,true] [([],fun _=>[]),([8],fun sg=>[bx aQ 149 ((sg 8).h 0).2 Cu]),([9],fun sg=>[bx aQ 149 ((sg 9).h 0).2 Cu]),([8,9],fun sg=>[bx aQ 149 ((sg 9).h 0).2 Cu,bx aQ 149 ((sg 8).h 0).2 Cu]),([8,9,10],fun sg=>[bx aQ 149 ((sg 8).h 0).2 e2,bx aQ 149 ((sg 9).h 0).2 Cu])] (fun _=>J) mixed J J J J
   ⟨⟨[⟨2,fun _=>bB bc e,none⟩],_,[[],[8],[9],[8,9]],J,⟨(fun _=>J),be⟩,J,J,J,J,J,⟨fun sg=>ah J (bZ fv c9 J J),fun sg=>ah J (bZ fv c9 J J),fun sg=>ah J (bZ fv c9 J J),fun sg=>ah J (bZ fv c9 J J),be⟩⟩,
   ⟨⟨[⟨28,fun _=>bB E3 e.Nodes,some 0⟩],_,[[],[8],[9],[8,9]],J,⟨(fun _=>J),be⟩,J,J,J,J,J,⟨fun sg=>ah J (bE mo J J),fun sg=>ah J (bE mo J J),fun sg=>ah J (bE mo J J),fun sg=>ah J (bE mo J J),be⟩⟩,
   ⟨⟨[⟨29,fun _=>tD E3 e.Nodes,some 1⟩],_,[[],[8],[9],[8,9]],J,⟨(fun _=>J),be⟩,J,J,J,J,J,⟨fun sg=>ah J (cq jv dy J (ht J) hI q_e2),fun sg=>ah J (cq jv dy J (ht J) hI q_e2),fun sg=>ah J (cq jv dy J (ht J) hI q_e2),fun sg=>ah J (cq jv dy J (ht J) hI q_e2),be⟩⟩,
   ⟨⟨[⟨30,fun _=>bB aQ e2,some 2⟩],_,[[],[8],[9],[8,9]],J,⟨(fun _=>J),be⟩,J,J,J,J,J,⟨fun sg=>ah J (bE dy J J),fun sg=>ah J (bE dy J J),fun sg=>ah J (bE dy J J),fun sg=>ah J (bE dy J J),be⟩⟩,
   ⟨⟨[⟨2,fun _=>bB bc e,none⟩],_,[[],[8],[9],[8,9],[8,9,10]],J,⟨(fun _=>J),be⟩,J,J,J,J,J,⟨fun sg=>ah J (bZ fv c9 J J),fun sg=>ah J (bZ fv c9 J J),fun sg=>ah J (bZ fv c9 J J),fun sg=>ah J (bZ fv c9 J J),fun sg=>ah J (bZ fv c9 J J),be⟩⟩,
   ⟨⟨[⟨32,fun _=>bB E3 e.Nodes,some 4⟩],_,[[],[8],[9],[8,9],[8,9,10]],J,⟨(fun _=>J),be⟩,J,J,J,J,J,⟨fun sg=>ah J (bE mo J J),fun sg=>ah J (bE mo J J),fun sg=>ah J (bE mo J J),fun sg=>ah J (bE mo J J),fun sg=>ah J (bE mo J J),be⟩⟩,
   ⟨⟨[⟨33,fun _=>tD E3 e.Nodes,some 5⟩],_,[[],[8],[9],[8,9],[8,9,10]],J,⟨(fun _=>J),be⟩,J,J,J,J,J,⟨fun sg=>ah J (cq jv dy J (ht J) hI q_e3),fun sg=>ah J (cq jv dy J (ht J) hI q_e3),fun sg=>ah J (cq jv dy J (ht J) hI q_e3),fun sg=>ah J (cq jv dy J (ht J) hI q_e3),fun sg=>ah J (cq jv dy J (ht J) hI q_e3),be⟩⟩,
   ⟨⟨[⟨34,fun _=>bB aQ e3,some 6⟩],_,[[],[8],[9],[8,9],[8,9,10]],J,⟨(fun _=>J),be⟩,J,J,J,J,J,⟨fun sg=>ah J (bE dy J J),fun sg=>ah J (bE dy J J),fun sg=>ah J (bE dy J J),fun sg=>ah J (bE dy J J),fun sg=>ah J (bE dy J J),be⟩⟩,
   ⟨⟨[],_,[([],[8]),([9],[8,9])],J,be,J,J,J,J,J,⟨fun sg=>eJ J (pE (r:=aQ) (x:=Cu) dy (fun _=>np _)),fun sg=>eJ J (EffOK.post_imp (post:=fun x__=>(fun(sg:Nat→OI)=>[bx aQ 149 ((sg 8).h 0).2 Cu,bx aQ 149 ((sg 9).h 0).2 Cu]) (CF sg 8 x__)) (pE (r:=aQ) (x:=Cu) dy (fun _=>np _)) (fun h=>da.pick [1,0] J h)),be⟩⟩,
   ⟨⟨[],_,[([],[9]),([8],[8,9])],J,be,J,J,J,J,J,⟨fun sg=>eJ J (pE (r:=aQ) (x:=Cu) dy (fun _=>np _)),fun sg=>eJ J (pE (r:=aQ) (x:=Cu) dy (fun _=>np _)),be⟩⟩,
   ⟨⟨[⟨7,fun sg=>tV (aD ((sg 8).h 0).2 0),some 8⟩,⟨31,fun _=>tD aQ e2,some 3⟩],_,[([8,9],[8,9,10])],J,⟨(fun _=>J),(fun _=>J),be⟩,J,J,J,J,J,⟨fun sg=>eJ J (EffOK.fr1 (gS dy J (KX ax) J (ht J) (ht J))),be⟩⟩,
   be⟩⟩⟩⟩⟩⟩⟩⟩⟩⟩⟩ (fun sg=>?_)
  refine(show RG _ _ _ _ [bx aQ 149 ((sg 8).h 0).2 e2,bx aQ 149 ((sg 9).h 0).2 Cu] _ from ?_);refine aT 7 J<|aC dy J ax J (ht J) (ht J)<|aT 8 J<|ap<|ae<|aq<|zo J (bZ js eI J J)<|zo J (bE bJ J J)<|zo J (s3 J)<|aA J<|cD J J (fun hg=>bZ js eI J J)<|cD J J (fun hg=>aL bJ J J (aI J hg))<|cD J J (fun hg=>dd (aI J hg) hI)<|zo J (pn J J)<|ap<|dQ h J (fun h=>?_) (fun h=>?_)
  ·refine aq<|zo J (fg)<|zo J (fg)<|zo J (fP)<|ap<|am<|aa ?_;cases so h;exact mK J J J J
  ·refine eK<|ae ?_
   refine eN (ts:=[_,_,_,_,_,_,_,_,_,_,_,_]) mixed J J
    ⟨iD 7 J J J (bZ mC iw J J),
    ⟨cR 44 0 J J J (bE bJ J J),
    ⟨iD 8 J J J (bZ mC iw J J),
    ⟨cR 46 2 J J J (bE bJ J J),
    ⟨fB 45 1 47 3 J J J J (mz (ht J) (ht J)),
    ⟨iD 7 J J J (bZ mC iw J J),
    ⟨cR 49 5 J J J (bE bJ J J),
    ⟨iD 8 J J J (bZ mC iw J J),
    ⟨cR 51 7 J J J (bE bJ J J),
    ⟨fB 50 6 52 8 J J J J (Ai (ht J) (ht J)),
    ⟨cR 48 4 J J J (yk J),
    ⟨cR 53 9 J J J (yk J),
    be⟩⟩⟩⟩⟩⟩⟩⟩⟩⟩⟩⟩ ?_
   refine an<|ae<|aq<|aA rfl<|aA rfl<|zo rfl (ev (ht rfl) (ht rfl))<|aA rfl<|cD rfl rfl (fun hg=>cN J)<|cD J J (fun hg=>cN J)<|cD J J (fun hg=>fH (aI J hg) (aI J hg))<|zo J (pn J J)<|ap<|dQ h J (fun h=>?_) (fun h=>?_)
   ·refine aq<|zo J (fg)<|zo J (fg)<|zo J (fP)<|ap<|am<|aa ?_;cases so h;exact mK J J J J
   ·refine eK<|aq<|aA J<|aA J<|aA J<|zo J (gy (ht J) (ht J))<|bu J<|bu J<|zo J (fP)<|ap<|am ?_;cases so h;exact mK J J J J

theorem Lx(n:aB)(a1:bp)(b:bp)(left:Int){R:Bool}(h:vk n a1 b left=some R):bg aP 79 [tD aE n,tD bN a1,tD bN b,cd left] (ij R):=by
 refine bg.of Tryz.func79 J J J fun w0 S0=>aq<|zo J (mp J)<|zo J (mp J)<|zo J (mp J)<|zo J (fP)<|ap<|ae<|aq<|zo J (bZ ln fO J J)<|zo J (bE bJ J J)<|zo J (j6 J)<|ap<|dQ h J (fun h=>?_) (fun h=>?_)
 ·refine aq<|zo J (bZ ln fO J J)<|zo J (bE bJ J J)<|zo J (s3 J)<|bu J<|ap<|am<|aa ?_;cases so h;exact aH J J
 ·refine eK<|ae<|aq<|zo J (bZ ln fO J J)<|zo J (bE bJ J J)<|zo J (s3 J)<|aA J<|cD J J (fun hg=>bZ ln fO J J)<|cD J J (fun hg=>aL bJ J J (aI J hg))<|cD J J (fun hg=>dd (aI J hg) hI)<|zo J (pn J J)<|aA J<|cD J J (fun hg=>bZ pi kr J J)<|cD J J (fun hg=>aL bV J J (aI J hg))<|cD J J (fun hg=>bI dp (aI J hg))<|cD J J (fun hg=>bZ pi kr J J)<|cD J J (fun hg=>aL bV J J (aI J hg))<|cD J J (fun hg=>bI dp (aI J hg))<|cD J J (fun hg=>dd (aI J hg) (aI J hg))<|zo J (pn J J)<|aA J<|bP h fun t q_t h=>?_;refine cD J J (fun hg=>bZ sV oB J J)<|cD J J (fun hg=>aL gj J J (aI J hg)) ?_
  obtain⟨r,h1t,h0t⟩:=og q_t
  have q_rg:=fun hb=>(h1t hb).1
  refine cD J J (fun hg=>aO N3 (Jp _ (q_rg hg)) ⟨(aI J hg),be⟩)<|cD J J (fun hg=>d7 (aI J hg))<|zo J (eH (ht J) (fun hb=>(aI J (mR hb))) (fun hb=>(h1t hb).2) h0t)<|ap<|dQ h J (fun h=>?_) (fun h=>?_)
  ·refine aq<|zo J (fP)<|ap<|am<|aa ?_;cases so h;exact aH J J
  ·refine eK<|aq<|Cg (fun y:Bool=>ij y) FN J fun b1=>bu J<|ap<|ae<|aq<|zo J (bZ sV oB J J)<|zo J (bE gj J J)<|bP h fun r1 q_r1 h=>jb N2 (Hm _ q_r1) ⟨(ht J),be⟩ J fun l c=>zo J (em qL (.head _) (ht J))<|zo J (bj hI)<|ap<|av<|hU (.head _) fun hN=>bO ?_;refine aM (ki (Z:=fun ls i held=>(r1.drop i=ls)∧mw a1 b left ls held=some R) (Of:=fun _ i held=>[cr bc 45 l c r1,BA (fun y:Bool=>ij y) FN b1 held]) (Gf:=fun _ i held=>[(3,cd left),(5,bB bN a1),(6,bB bN b),(9,tV (lR b1)),(48,n6 l c r1),(49,jt r1),(50,cd (i:Int))]) (fun i held h=>?_) (fun e tl ih i held h=>?_) r1 0 ([]:List ((Int×Int)×Bool)) ⟨J,h⟩) (bh J)
   ·obtain⟨hx,h⟩:=h
    refine au<|aq<|zo J (fM J J)<|ap<|ae<|bt (ht J) (du hx)<|bn ?_;refine ac (ac (aG ?_));refine an<|ae<|aq<|zo rfl (bZ pi kr rfl rfl)<|zo rfl (bE bV rfl rfl)<|zo rfl (jL dp rfl)<|zo rfl (bj hI)<|ap<|av<|aY (k:=68) J fun hN1=>bO<|nk ?_;refine aM (eC (Z:=fun ls1 i1=>(a1.Cols.drop i1=ls1)∧ov b held ls1 i1=some R) (Of:=fun _ i1=>[BA (fun y:Bool=>ij y) FN b1 held]) (Gf:=fun _ i1=>[(5,bB bN a1),(6,bB bN b),(9,tV (lR b1)),(69,jt a1.Cols),(70,cd (i1:Int))]) (fun i1 h=>?_) (fun e1 tl1 ih1 i1 h=>?_) a1.Cols 0 ⟨J,h⟩) (bh J)
    ·obtain⟨hx1,h⟩:=h
     refine au<|aq<|zo J (fM J J)<|ap<|ae<|bt (ht J) (du hx1)<|bn ?_;refine ac (ac (aG ?_));refine an<|aq<|zo rfl (fP)<|ap<|am<|bw ?_;cases so h;exact aH J J
    ·obtain⟨hx1,h⟩:=h
     refine au<|aq<|zo J (fM J J)<|ap<|ae<|br (ht J) (dn hx1)<|eK<|ae<|av<|aq<|aA J<|bu J<|ap<|ae<|bP h fun e2 q_e2 h=>?_
     refine eN (ts:=[_,_,_,_,_,_,_,_,_,_,_,_,_,_]) mixed J J
      ⟨iD 9 J J J (cN J),
      ⟨iD 5 J J J (bZ pi kr J J),
      ⟨cR 74 1 J J J (bE bV J J),
      ⟨iD 15 J J J (cN J),
      ⟨fB 75 2 76 3 J J J J (j8 dp bJ J J J (dB hx1)),
      ⟨cR 77 4 J J J (bE bJ J J),
      ⟨iD 6 J J J (bZ pi kr J J),
      ⟨cR 79 6 J J J (bE bV J J),
      ⟨iD 15 J J J (cN J),
      ⟨fB 80 7 81 8 J J J J (j8 dp bJ J J J q_e2),
      ⟨cR 82 9 J J J (bE bJ J J),
      ⟨fB 78 5 83 10 J J J J (n9 (r:=bU) (ys:=[e1,e2]) (xs:=[.tmp 78,.tmp 83]) wr bJ J vQ J J ⟨(ht J),(ht J),be⟩),
      ⟨fB 73 0 84 11 J J J J (C4 (γ:=fun y:Bool=>tD rB y) (z:=false) Tryz.underlying58 (Iz wr k7 bJ J JK) zv4 (fun S=>⟨_,J,(fun _=>J) S⟩) (.head _) (ht J) (G4 (ht J))),
      ⟨cR 85 12 J J J (d7 (ht J)),
      be⟩⟩⟩⟩⟩⟩⟩⟩⟩⟩⟩⟩⟩⟩ ?_
     refine an<|dQ h rfl (fun h=>?_) (fun h=>?_)
     ·refine aq<|zo J (fP)<|ap<|am ?_;refine aF (aa (aa (aF (aa ?_))));refine bw ?_;cases so h;exact aH J J
     ·refine bC<|al<|an<|ak<|zo rfl (lk (cQ hx1 hN1) rfl)<|aA rfl<|aK ?_;exact aW (aM (ih1 (i1+1) ⟨cP hx1,h⟩) (bh J))
   ·obtain⟨hx,h⟩:=h
    refine au<|aq<|zo J (fM J J)<|ap<|ae<|br (ht J) (dn hx)<|eK<|ae<|av<|aq<|zo J (cz qL gj (.head _) (ht J) (ht J) (dB hx))<|zo J (dR (r:=bc) (i:=(i:Int)) (foff:=0) gj J J cV J (.head _) (dB hx) (ht J))<|aX (r:=bc) (x:=qG) gj (fun _=>pO _) J fun b2=>aC gj J ax J (ht J) (ht J)<|aT 11 J<|ap<|aq<|zo J (bE gj J J) ?_;refine aA J<|bP h fun r2 q_r2 h=>zo J (aO N1 (Jo _ _ q_r2) ⟨(ht J),(ht J),be⟩)<|aA J<|zo J (lv J J)<|zo J (lv J J)<|zo J (lv J J)<|bu J<|bu J<|bu J<|ap<|aq<|aA J<|ap<|dQ h J (fun h=>?_) (fun h=>?_)
    ·refine ak<|aA J<|aA J<|aA J<|zo J (n9 (r:=bU) (ys:=[r2.1,r2.2.1]) (xs:=[.tmp 63,.tmp 64]) wr bJ J vQ J J ⟨(ht J),(ht J),be⟩)<|bT<|J1 (γ:=fun y:Bool=>ij y) Tryz.underlying58 (Iz wr k7 bJ J JK) (ht J) (G4 (ht J)) hB<|aK<|al<|an<|ak<|zo rfl (lk (cQ hx hN) rfl)<|aA rfl<|aK<|bf ?_;exact aW (aM (ih (i+1) (gA held (k2 ([r2.1,r2.2.1])) true) ⟨cP hx,h⟩) (bh J))
    ·refine bC<|al<|an<|ak<|zo rfl (lk (cQ hx hN) rfl)<|aA rfl<|aK ?_;exact aW (aM (ih (i+1) held ⟨cP hx,h⟩) (bh J))

theorem Jn(keys:(List Int))(c:Int){R:Bool}(h:ow keys c=some R):bg aP 155 [cd c,bB gH keys] (ij R):=by
 refine bg.of Tryz.func155 J J J fun w0 S0=>aq<|zo J (fP)<|ap<|aq<|zo J (bE bV J J)<|aA J<|bP h fun r q_r h=>zo J (aO LU (Dm _ _ q_r) ⟨(ht J),(ht J),be⟩)<|zo J (d7 (ht J))<|bu J<|ap<|am ?_;cases so h;exact aH J J

theorem Lw(a1:bp)(keys:(List Int)){R:Bool}(h:tz a1 keys=some R):bg aP 80 [tD bN a1,lW keys] (ij R):=by
 refine bg.of Tryz.func80 J J J fun w0 S0=>aq<|zo J (mp J)<|zo J (mp J)<|zo J (fP)<|ap<|aq<|zo J (bZ ln fO J J)<|zo J (bE bJ J J)<|zo J (j6 J)<|aA J<|bP h fun t q_t h=>bD J J (fun hg=>bZ pi kr J J)<|bD J J (fun hg=>aL bV J J (aI J hg))<|bD J J (fun hg=>(show bS _ _ _ _ ((fC aP zS lX (fun(x:Int)=>(ow keys) x)))from hZ (cts:=[bB gH keys]) (caps:=[.tmp 3]) N0 ⟨(ht J),be⟩ (fun x y h=>Jn _ _ h))) ?_
 obtain⟨r,h1t,h0t⟩:=og q_t
 have q_rg:=fun hb=>(h1t hb).1
 refine bD J J (fun hg=>aO EK (wm _ _ (q_rg hg)) ⟨(aI J hg),(aI J hg),be⟩)<|bD J J (fun hg=>d7 (aI J hg))<|zo J (dv (ht J) (fun hb=>(aI J hb)) (fun hb=>(h1t hb).2) h0t)<|bu J<|ap<|am ?_;cases so h;exact aH J J

theorem Lv(s1:(List iA))(s2:(List iA)){R:Bool}(h:ka s1 s2=some R):bg aP 81 [fX (fT) s1,fX (fT) s2] (ij R):=by
 refine bg.of Tryz.func81 J J J fun w0 S0=>aq<|zo J (fP)<|ap<|ae<|aq<|aA J<|zo J (jL s7 J)<|aA J<|zo J (jL s7 J)<|zo J (dd (ht J) (ht J))<|ap<|dQ h J (fun h=>?_) (fun h=>?_)
 ·refine aq<|zo J (fP)<|ap<|am<|aa ?_;cases so h;exact aH J J
 ·refine eK<|ae<|aq<|aA J<|zo J (jL s7 J)<|zo J (bj hI)<|ap<|av<|aY (k:=11) J fun hN=>bO ?_;refine aM (eC (Z:=fun ls i=>(s1.drop i=ls)∧fS s2 ls i=some R) (Of:=fun _ i=>[]) (Gf:=fun _ i=>[(0,fX (fT) s1),(1,fX (fT) s2),(12,jt s1),(13,cd (i:Int))]) (fun i h=>?_) (fun e tl ih i h=>?_) s1 0 ⟨J,h⟩) (bh J)
  ·obtain⟨hx,h⟩:=h
   refine au<|aq<|zo J (fM J J)<|ap<|ae<|bt (ht J) (du hx)<|bn ?_;refine ac (ac (aG ?_));refine an<|aq<|zo rfl (fP)<|ap<|am ?_;cases so h;exact aH J J
  ·obtain⟨hx,h⟩:=h
   refine au<|aq<|zo J (fM J J)<|ap<|ae<|br (ht J) (dn hx)<|eK<|ae<|av<|aq<|aA J<|bu J<|ap<|ae<|bP h fun e1 q_e1 h=>?_
   refine eN (ts:=[_,_,_,_,_,_,_,_,_]) mixed J J
    ⟨iD 0 J J J (cN J),
    ⟨iD 5 J J J (cN J),
    ⟨fB 16 0 17 1 J J J J (j8 s7 tg J J J (dB hx)),
    ⟨cR 18 2 J J J (bE tg J J),
    ⟨iD 1 J J J (cN J),
    ⟨iD 5 J J J (cN J),
    ⟨fB 20 4 21 5 J J J J (j8 s7 tg J J J q_e1),
    ⟨cR 22 6 J J J (bE tg J J),
    ⟨fB 19 3 23 7 J J J J (wb Nj (ht J) (ht J)),
    be⟩⟩⟩⟩⟩⟩⟩⟩⟩ ?_
   refine an<|dQ h rfl (fun h=>?_) (fun h=>?_)
   ·refine aq<|zo J (fP)<|ap<|am ?_;refine aF (aa (aa (aF (aa ?_))));cases so h;exact aH J J
   ·refine bC<|al<|an<|ak<|zo rfl (lk (cQ hx hN) rfl)<|aA rfl<|aK ?_;exact aW (aM (ih (i+1) ⟨cP hx,h⟩) (bh J))

theorem LH(p:(Option bH))(frag:Int)(at1:Int)(l:(List bp)){R:Bool}(h:fa p frag at1 l=some R):bg aP 43 [tD mV p,cd frag,cd at1,fX (bN) l] (ij R):=by
 refine bg.of Tryz.func43 J J J fun w0 S0=>aq<|zo J (fP)<|ap<|aq<|aA J<|bP h fun p1 q_p1 h=>zo J (ec (ht J) q_p1)<|zo J (bZ nh gr J J)<|zo J (bZ lT gc J J)<|zo J (bE sH J J)<|aA J<|bP h fun e q_e h=>zo J (j8 o9 je J J J q_e)<|zo J (bE je J J)<|aX (r:=cn) (x:=yj) je (fun _=>lD _) J fun b=>aC je J ax J (ht J) (ht J)<|aT 9 J<|ap<|ae ?_;refine ak<|zo J (bZ m7 ig J J)<|zo J (bE rX J J)<|aA J<|bP h fun e1 q_e1 h=>zo J (j8 la d3 J J J q_e1)<|zo J (bE d3 J J)<|aX (r:=aE) (x:=AW) d3 (fun _=>fh _) J fun b1=>aC d3 J ax J (ht J) (ht J)<|aT 10 J<|ap ?_;refine zE (Z:=iB p frag l e e1=some R) (Of:=[]) (Gf:=[(0,tD mV p),(1,cd frag),(3,fX (bN) l),(9,bB cn e),(10,bB aE e1)]) (fun h=>?_) (fun K=>?_)
 ·skip
  refine ae<|aq<|zo J (bZ sW m5 J J)<|zo J (bE bJ J J)<|zo J (j6 J)<|aA J<|cD J J (fun hg=>bZ rb kY J J)<|cD J J (fun hg=>aL bJ J J (aI J hg))<|cD J J (fun hg=>fH (aI J hg) hI)<|zo J (pn J J)<|ap<|dQ h J (fun h=>?_) (fun h=>?_)
  ·refine aq<|zo J (fP)<|ap<|am<|aa ?_;cases so h;exact aH J J
  ·refine eK<|aq<|aA J<|zo J (bZ rb kY J J)<|zo J (bE bJ J J)<|bP h fun e2 q_e2 h=>zo J (j8 rU ek J J J q_e2)<|zo J (bE ek J J)<|aX (r:=bN) (x:=vZ) ek (fun _=>gI _) J fun b2=>aC ek J ax J (ht J) (ht J)<|aT 13 J<|ap<|ae<|aq<|zo J (bZ gD cK J J)<|zo J (bE bJ J J)<|ap<|av<|ae ?_;refine ak<|zo J (j6 J)<|bu J<|ap<|dQ h J (fun h=>?_) (fun h=>?_)
   ·refine ae<|bP h fun e3 q_e3 h=>bP h fun p2 q_p2 h=>bP h fun e4 q_e4 h=>bP h fun e5 q_e5 h=>bP h fun r q_r h=>?_
    refine eN (ts:=[_,_,_,_,_,_,_,_,_,_,_,_,_,_,_,_,_,_,_,_,_]) mixed J J
     ⟨iD 10 J J J (bE d3 J J),
     ⟨iD 13 J J J (bE ek J J),
     ⟨iD 3 J J J (cN J),
     ⟨iD 10 J J J (bZ uW m4 J J),
     ⟨cR 75 3 J J J (bE bJ J J),
     ⟨fB 74 2 76 4 J J J J (j8 rU ek J J J q_e3),
     ⟨cR 77 5 J J J (bE ek J J),
     ⟨iD 0 J J J (cN J),
     ⟨cR 79 7 J J J (ec (ht J) q_p2),
     ⟨cR 80 8 J J J (bZ wh tR J J),
     ⟨cR 81 9 J J J (bE D3 J J),
     ⟨iD 1 J J J (cN J),
     ⟨fB 82 10 83 11 J J J J (j8 Tryz.underlying161 yn J J J q_e4),
     ⟨cR 84 12 J J J (bE yn J J),
     ⟨iD 10 J J J (bZ rb kY J J),
     ⟨cR 86 14 J J J (bE bJ J J),
     ⟨fB 85 13 87 15 J J J J (j8 qK bV J J J q_e5),
     ⟨cR 88 16 J J J (bE bV J J),
     ⟨cR 89 17 J J J (jL dp J),
     ⟨⟨[⟨72,_,some 0⟩,⟨73,_,some 1⟩,⟨78,_,some 6⟩,⟨90,_,some 18⟩],_,J,⟨J,J,J,J,be⟩,J,J,ah J (aO Pp (Lx _ _ _ _ q_r) ⟨(ht J),(ht J),(ht J),(ht J),be⟩)⟩,
     ⟨cR 91 19 J J J (yk J),
     be⟩⟩⟩⟩⟩⟩⟩⟩⟩⟩⟩⟩⟩⟩⟩⟩⟩⟩⟩⟩⟩ ?_
    refine an<|am ?_;refine aF (aa ?_);cases so h;exact aH J J
   ·refine aq<|zo J (j6 J)<|bu J<|ap<|dQ h J (fun h=>?_) (fun h=>?_)
    ·refine aq<|zo J (bZ ln fO J J)<|zo J (bE bJ J J)<|zo J (s3 J)<|aA J<|bP h fun t q_t h=>bD J J (fun hg=>cN J)<|bD J J (fun hg=>bZ uW m4 J J)<|bD J J (fun hg=>aL bJ J J (aI J hg)) ?_
     obtain⟨e6,h1t,h0t⟩:=og q_t
     have q_e6g:=fun hb=>(h1t hb).1
     refine bD J J (fun hg=>cq rU ek J (aI J hg) (aI J hg) (q_e6g hg))<|bD J J (fun hg=>cB ln J fO J (aI J hg))<|bD J J (fun hg=>aL bJ J J (aI J hg))<|bD J J (fun hg=>dd (aI J hg) hI)<|zo J (dv (ht J) (fun hb=>(aI J hb)) (fun hb=>(h1t hb).2) h0t)<|bu J<|ap<|am ?_;refine aF (aa ?_);cases so h;exact aH J J
    ·refine ge (Z:=fun x=>kB p frag e e1 e2 x=some R) (Of:=fun x=>[]) (Gf:=fun x=>[(0,tD mV p),(1,cd frag),(9,bB cn e),(10,bB aE e1),(13,bB bN e2),(69,cd e1.Op),(106,ij x)]) (fun x h=>?_) (fun K1=>?_)
     ·skip
      refine dQ h J (fun h=>?_) (fun h=>?_)
      ·refine aq<|zo J (bE ek J J)<|zo J (bZ lq ff J J)<|zo J (bE bV J J)<|bP h fun r1 q_r1 h=>zo J (aO Po (Lw _ _ q_r1) ⟨(ht J),(ht J),be⟩)<|bu J<|ap<|am ?_;refine aF (aa ?_);cases so h;exact aH J J
      ·refine aq<|zo J (j6 J)<|bu J<|ap<|dQ h J (fun h=>?_) (fun h=>?_)
       ·refine aq<|zo J (bZ ln fO J J)<|zo J (bE bJ J J)<|zo J (j6 J)<|bu J<|ap<|am ?_;refine aF (aa ?_);cases so h;exact aH J J
       ·refine aq<|zo J (j6 J)<|bu J<|ap<|dQ h J (fun h=>?_) (fun h=>?_)
        ·refine aq<|zo J (bZ ln fO J J)<|zo J (bE bJ J J)<|zo J (s3 J)<|bu J<|ap<|am ?_;refine aF (aa ?_);cases so h;exact aH J J
        ·refine aq<|zo J (j6 J)<|bu J<|ap<|dQ h J (fun h=>?_) (fun h=>?_)
         ·refine aq<|aA J<|aA J<|bP h fun r2 q_r2 h=>zo J (aO Nm (Hh _ _ q_r2) ⟨(ht J),(ht J),be⟩)<|aX (r:=aE) (x:=AW) d3 (fun _=>fh _) J fun b3=>aC d3 J ax J (ht J) (ht J)<|aT 14 J<|ap<|aq<|zo J (bZ ln fO J J)<|zo J (bE bJ J J)<|zo J (s3 J)<|aA J<|bD J J (fun hg=>bZ re mg J J)<|bD J J (fun hg=>aL bJ J J (aI J hg))<|bD J J (fun hg=>bv (aI J hg) hI)<|zo J (ky J J)<|aA J<|bD J J (fun hg=>bZ gD cK J J)<|bD J J (fun hg=>aL bJ J J (aI J hg)) ?_;refine bD J J (fun hg=>bv (aI J hg) hI)<|zo J (ky J J)<|aA J<|bD J J (fun hg=>bZ tS nz J J)<|bD J J (fun hg=>aL bJ J J (aI J hg))<|bD J J (fun hg=>bZ tS nz J J)<|bD J J (fun hg=>aL bJ J J (aI J hg))<|bD J J (fun hg=>bv (aI J hg) (aI J hg))<|zo J (ky J J)<|aA J<|bP h fun t1 q_t1 h=>bD J J (fun hg=>bZ qh jM J J)<|bD J J (fun hg=>aL zX J J (aI J hg))<|bD J J (fun hg=>bZ qh jM J J)<|bD J J (fun hg=>aL zX J J (aI J hg)) ?_
          obtain⟨r3,h1t1,h0t1⟩:=og q_t1
          have q_r3g:=fun hb=>(h1t1 hb).1
          refine bD J J (fun hg=>aO Pn (Lv _ _ (q_r3g hg)) ⟨(aI J hg),(aI J hg),be⟩)<|zo J (dv (ht J) (fun hb=>(aI J hb)) (fun hb=>(h1t1 hb).2) h0t1)<|bu J<|ap<|am ?_;refine aF (aa ?_);cases so h;exact aH J J
         ·refine bC<|al<|an<|aq<|zo rfl (fP)<|ap<|am ?_;cases so h;exact aH J J
     ·skip
      refine aq<|zo J (j6 J)<|bu J<|ap<|dQ h J (fun h=>?_) (fun h=>?_)
      ·refine bC ?_;exact cb (K1 (e1.Op==(4:Int)) h) (bh J)
      ·refine ak<|zo J (j6 J)<|bu J<|aK ?_;exact cb (K1 (e1.Op==(11:Int)) h) (bh J)
 ·skip
  refine aq<|zo J (bZ gD cK J J)<|zo J (bE bJ J J)<|zo J (j6 J)<|ap<|dQ h J (fun h=>?_) (fun h=>?_)
  ·refine aq<|aA J<|aA J<|bP h fun r4 q_r4 h=>zo J (aO Nm (Hh _ _ q_r4) ⟨(ht J),(ht J),be⟩)<|aX (r:=aE) (x:=AW) d3 (fun _=>fh _) J fun b4=>aC d3 J ax J (ht J) (ht J)<|aT 11 J<|ap<|aq<|zo J (bZ kZ fI J J)<|zo J (bE qP J J)<|zo J (bZ kZ fI J J)<|zo J (bE qP J J)<|bP h fun r5 q_r5 h=>zo J (aO Pr (Lz _ _ _ q_r5) ⟨(ht J),(ht J),(Ar Pq fun x y h=>Ly _ _ h),be⟩)<|bu J<|ap<|aq ?_;refine zo J (bZ gD cK J J)<|zo J (bE bJ J J)<|zo J (s3 J)<|aA J<|cD J J (fun hg=>cN J)<|cD J J (fun hg=>d7 (aI J hg))<|zo J (pn J J)<|aA J<|cD J J (fun hg=>bZ lq ff J J)<|cD J J (fun hg=>aL bV J J (aI J hg))<|cD J J (fun hg=>bI dp (aI J hg))<|cD J J (fun hg=>bZ lq ff J J)<|cD J J (fun hg=>aL bV J J (aI J hg))<|cD J J (fun hg=>bI dp (aI J hg))<|cD J J (fun hg=>dd (aI J hg) (aI J hg))<|zo J (pn J J)<|ap<|dQ h J (fun h=>?_) (fun h=>?_)
   ·refine aq<|zo J (fP)<|ap<|am<|aa ?_;cases so h;exact aH J J
   ·refine bC ?_;exact cb (K h) (bh J)
  ·refine bC ?_;exact cb (K h) (bh J)

theorem Ho(q:eM)(c:bz){R:Int×Int×Int}(h:kN q c=some R):bg aP 12 [tD dk q,tD ck c] (tT [cd R.1,cd R.2.1,cd R.2.2]):=by
 refine bg.of Tryz.func12 J J J fun w0 S0=>aq<|zo J (mp J)<|zo J (mp J)<|zo J (fg)<|zo J (fg)<|zo J (fg)<|ap<|ya<|aq<|zo J (bE nR J J)<|zo J (bE lL J J)<|bP h fun r q_r h=>zo J (aO LV (Dn _ _ q_r) ⟨(ht J),(ht J),be⟩)<|aA J<|zo J (lv J J)<|zo J (lv J J)<|zo J (lv J J)<|zo J (lv J J)<|bu J<|bu J ?_;refine bu J<|bu J<|ap<|ae<|aq<|aA J<|zo J (s3 J)<|ap<|dQ h J (fun h=>?_) (fun h=>?_)
 ·refine aq<|aA J<|aA J<|aA J<|bu J<|bu J<|bu J<|ap<|am ?_;refine aa (mj ?_);cases so h;exact mK J J J J
 ·refine eK<|aq<|zo J (fg)<|zo J (fg)<|ap<|ae<|yb<|an<|ae<|aq<|zo rfl (bZ lT gc rfl rfl)<|zo rfl (bE sH rfl rfl)<|zo rfl (jL o9 rfl)<|zo rfl (bj hI)<|ap ?_;refine Gn (Z:=fun frag place=>ly frag place=some R) (Of:=fun frag place=>[]) (Gf:=fun frag place=>[(11,cd frag),(12,cd place)]) (fun frag place h=>?_) (fun K=>?_)
  ·skip
   refine an<|ae<|aq<|aA rfl<|zo rfl (ev (ht rfl) hI)<|ap<|dQ h rfl (fun h=>?_) (fun h=>?_)
   ·refine aq<|aA J<|aA J<|bu J<|bu J<|zo J (fg)<|ap<|am ?_;refine aa (mj ?_);cases so h;exact mK J J J J
   ·refine eK<|aq<|zo J (fg)<|zo J (fg)<|zo J (fg)<|ap<|am<|mj ?_;cases so h;exact mK J J J J
  ·skip
   refine aY (k:=31) J fun hN=>bO ?_;refine aM (oE (Z:=fun ls i frag1 place1=>(q.Frags.drop i=ls)∧hY r ls i frag1 place1=some R) (Of:=fun _ i frag1 place1=>[]) (Gf:=fun _ i frag1 place1=>[(7,tD mV r.1),(11,cd frag1),(12,cd place1),(31,fX (cn) q.Frags),(32,jt q.Frags),(33,cd (i:Int))]) (fun i frag1 place1 h=>?_) (fun e tl ih i frag1 place1 h=>?_) q.Frags 0 nO (0:Int) ⟨J,h⟩) (bh J)
   ·obtain⟨hx,h⟩:=h
    refine au<|aq<|zo J (fM J J)<|ap<|ae<|bt (ht J) (du hx)<|bn ?_;refine ac (ac (aG ?_));exact cb (K frag1 place1 h) (bh J)
   ·obtain⟨hx,h⟩:=h
    refine au<|aq<|zo J (fM J J)<|ap<|ae<|br (ht J) (dn hx)<|eK<|ae<|av<|aq<|aA J<|zo J (j8 o9 je J J J (dB hx))<|zo J (bE je J J)<|aX (r:=cn) (x:=yj) je (fun _=>lD _) J fun b=>bu J<|aC je J ax J (ht J) (ht J)<|aT 14 J<|ap<|ae ?_;refine ak<|aA J<|aA J<|bP h fun r1 q_r1 h=>jb No (Et _ _ q_r1) ⟨(ht J),(ht J),be⟩ J fun l c1=>bu J<|ap<|ae<|aq<|zo J (bZ m7 ig J J)<|zo J (bE rX J J)<|zo J (jL la J)<|zo J (bj hI)<|ap<|av<|aY (k:=42) J fun hN1=>bO<|Ge<|Cm 40 J<|Cm 15 J ?_;refine aM (oE (Z:=fun ls1 i1 frag2 place2=>(e.Nodes.drop i1=ls1)∧gp r (hY r tl) i r1 ls1 i1 frag2 place2=some R) (Of:=fun _ i1 frag2 place2=>[gX bN 55 l c1 r1]) (Gf:=fun _ i1 frag2 place2=>[(7,tD mV r.1),(11,cd frag2),(12,cd place2),(13,cd (i:Int)),(15,tO bN l c1 r1),(31,fX (cn) q.Frags),(32,jt q.Frags),(33,cd (i:Int)),(43,jt e.Nodes),(44,cd (i1:Int))]) (fun i1 frag2 place2 h=>?_) (fun e1 tl1 ih1 i1 frag2 place2 h=>?_) e.Nodes 0 frag1 place1 ⟨J,h⟩) (bh J)
    ·obtain⟨hx1,h⟩:=h
     refine au<|aq<|zo J (fM J J)<|ap<|ae<|bt (ht J) (du hx1)<|bn ?_;refine ac (ac (aG ?_));refine an<|aq<|aA rfl<|aA rfl<|zo rfl (bI rU (uC (ht rfl)))<|zo rfl (gy (ht rfl) hI)<|bP h fun e2 q_e2 h=>zo J (cq rU ek J (uC (ht J)) (ht J) q_e2)<|zo J (bZ ln fO J J)<|zo J (bE bJ J J)<|zo J (j6 J)<|ap<|dQ h J (fun h=>?_) (fun h=>?_)
     ·refine aq<|aA J<|aA J<|zo J (bI rU (uC (ht J)))<|zo J (gy (ht J) hI)<|bu J<|bu J<|ap<|bn ?_;refine bM J (ac (ac (aG ?_)));refine bw ?_;exact cb (K (i:Int) (IntKind.i64.wrap ((r1.length:Int)-(1:Int))) h) (bh J)
     ·refine bC<|al<|an<|ak<|zo rfl (lk (cQ hx hN) rfl)<|aA rfl<|aK<|bw ?_;exact aW (aM (ih (i+1) frag2 place2 ⟨cP hx,h⟩) (bh J))
    ·obtain⟨hx1,h⟩:=h
     refine au<|aq<|zo J (fM J J)<|ap<|ae<|br (ht J) (dn hx1)<|eK<|ae<|av<|aq<|aA J<|bu J<|ap<|aq<|aA J<|aA J<|aA J<|aA J ?_;refine bP h fun r2 q_r2 h=>zo J (aO PB (LH _ _ _ _ q_r2) ⟨(ht J),(ht J),(ht J),(uC (ht J)),be⟩)<|zo J (d7 (ht J))<|ap<|dQ h J (fun h=>?_) (fun h=>?_)
     ·refine aq<|aA J<|aA J<|bu J<|bu J<|ap<|bn ?_;refine bM J (ac (ac (bM J (ac (bM J (ac (ac (aG ?_))))))));refine bw ?_;exact cb (K (i:Int) (i1:Int) h) (bh J)
     ·refine bC<|al<|an<|ak<|zo rfl (lk (cQ hx1 hN1) rfl)<|aA rfl<|aK ?_;exact aW (aM (ih1 (i1+1) frag2 place2 ⟨cP hx1,h⟩) (bh J))

end Go.Proofs.YtmogpgcfognefaaGreatDoor

