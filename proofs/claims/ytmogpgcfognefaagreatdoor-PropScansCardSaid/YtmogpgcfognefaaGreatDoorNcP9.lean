/- cd of this claim: P9. -/
import Derived.Test.YtmogpgcfognefaaGreatDoorNcT
import Derived.Test.YtmogpgcfognefaaGreatDoorNcP8
set_option linter.all false
namespace Go.Proofs.YtmogpgcfognefaaGreatDoor
open Go
set_option maxRecDepth 100000

theorem Lj(e:bT)(left:Int){R:Int×Int×Bool}(h:AD e left=some R):aW aM 154 [tD cm e,bQ left] (tT [bQ R.1,bQ R.2.1,gu R.2.2]):=by
 refine aW.of Tryz.func154 J J J fun w0 S0=>au<|zo J (kZ J)<|zo J (dA)<|zo J (dA)<|zo J (eL)<|ap<|ae<|au<|zo J (bw kV J J)<|bF h fun r q_r h=>zo J (aJ LQ (BI _ q_r) ⟨(ht J),be⟩)<|zo J (qZ J)<|ax J<|cw J J (fun hg=>bY fV dj J J)<|cw J J (fun hg=>aL mJ J J (aI J hg))<|cw J J (fun hg=>bR kE (aI J hg))<|cw J J (fun hg=>cZ (aI J hg) hI)<|zo J (oQ J J)<|ax J<|bF h fun t q_t h=>?_;refine cw J J (fun hg=>bY fV dj J J)<|cw J J (fun hg=>aL mJ J J (aI J hg)) ?_
 obtain⟨e1,h1t,h0t⟩:=og q_t
 have q_e1g:=fun hb=>(h1t hb).1
 refine cw J J (fun hg=>b9 kE dK J (aI J hg) hI (q_e1g hg))<|cw J J (fun hg=>cI iS J eE J (aI J hg))<|cw J J (fun hg=>aL bK J J (aI J hg))<|cw J J (fun hg=>cZ (aI J hg) hI)<|zo J (dV (ht J) (fun hb=>(aI J (mz hb))) (fun hb=>(h1t hb).2) h0t)<|ap<|dh h J (fun h=>?_) (fun h=>?_)
 ·refine au<|zo J (dA)<|zo J (dA)<|zo J (eL)<|ap<|al<|aa ?_;cases so h;exact mu J J J J
 ·refine dz<|ae<|bF h fun e2 q_e2 h=>bF h fun e3 q_e3 h=>?_
  refine Js 11 [tc (bp Gp e.Nodes),tc (d6 (bh) e.Nodes),tc (bp bh e2),tc (tD bh e2),tc (bp Gp e.Nodes),tc (d6 (bh) e.Nodes),tc (bp bh e3),tc (tD bh e3),([8],fun s=>tV (aF ((s.getD 0 sR).h 0).2 0)),([9],fun s=>tV (aF ((s.getD 0 sR).h 0).2 0)),tc (xF)] [false,false,false,false,false,false,false,false,true,true,true] [([],fun _=>[]),([8],fun sg=>[bx bh 149 ((sg 8).h 0).2 DH]),([9],fun sg=>[bx bh 149 ((sg 9).h 0).2 DH]),([8,9],fun sg=>[bx bh 149 ((sg 9).h 0).2 DH,bx bh 149 ((sg 8).h 0).2 DH]),([8,9,10],fun sg=>[bx bh 149 ((sg 8).h 0).2 e2,bx bh 149 ((sg 9).h 0).2 DH])] (fun _=>J) mixed J J J J
   ⟨⟨[⟨2,fun _=>bp cm e,none⟩],_,[[],[8],[9],[8,9]],J,⟨(fun _=>J),be⟩,J,J,J,J,J,⟨fun sg=>ah J (bY fV dj J J),fun sg=>ah J (bY fV dj J J),fun sg=>ah J (bY fV dj J J),fun sg=>ah J (bY fV dj J J),be⟩⟩,
   ⟨⟨[⟨28,fun _=>bp Gp e.Nodes,some 0⟩],_,[[],[8],[9],[8,9]],J,⟨(fun _=>J),be⟩,J,J,J,J,J,⟨fun sg=>ah J (bw mJ J J),fun sg=>ah J (bw mJ J J),fun sg=>ah J (bw mJ J J),fun sg=>ah J (bw mJ J J),be⟩⟩,
   ⟨⟨[⟨29,fun _=>tD Gp e.Nodes,some 1⟩],_,[[],[8],[9],[8,9]],J,⟨(fun _=>J),be⟩,J,J,J,J,J,⟨fun sg=>ah J (b9 kE dK J (ht J) hI q_e2),fun sg=>ah J (b9 kE dK J (ht J) hI q_e2),fun sg=>ah J (b9 kE dK J (ht J) hI q_e2),fun sg=>ah J (b9 kE dK J (ht J) hI q_e2),be⟩⟩,
   ⟨⟨[⟨30,fun _=>bp bh e2,some 2⟩],_,[[],[8],[9],[8,9]],J,⟨(fun _=>J),be⟩,J,J,J,J,J,⟨fun sg=>ah J (bw dK J J),fun sg=>ah J (bw dK J J),fun sg=>ah J (bw dK J J),fun sg=>ah J (bw dK J J),be⟩⟩,
   ⟨⟨[⟨2,fun _=>bp cm e,none⟩],_,[[],[8],[9],[8,9],[8,9,10]],J,⟨(fun _=>J),be⟩,J,J,J,J,J,⟨fun sg=>ah J (bY fV dj J J),fun sg=>ah J (bY fV dj J J),fun sg=>ah J (bY fV dj J J),fun sg=>ah J (bY fV dj J J),fun sg=>ah J (bY fV dj J J),be⟩⟩,
   ⟨⟨[⟨32,fun _=>bp Gp e.Nodes,some 4⟩],_,[[],[8],[9],[8,9],[8,9,10]],J,⟨(fun _=>J),be⟩,J,J,J,J,J,⟨fun sg=>ah J (bw mJ J J),fun sg=>ah J (bw mJ J J),fun sg=>ah J (bw mJ J J),fun sg=>ah J (bw mJ J J),fun sg=>ah J (bw mJ J J),be⟩⟩,
   ⟨⟨[⟨33,fun _=>tD Gp e.Nodes,some 5⟩],_,[[],[8],[9],[8,9],[8,9,10]],J,⟨(fun _=>J),be⟩,J,J,J,J,J,⟨fun sg=>ah J (b9 kE dK J (ht J) hI q_e3),fun sg=>ah J (b9 kE dK J (ht J) hI q_e3),fun sg=>ah J (b9 kE dK J (ht J) hI q_e3),fun sg=>ah J (b9 kE dK J (ht J) hI q_e3),fun sg=>ah J (b9 kE dK J (ht J) hI q_e3),be⟩⟩,
   ⟨⟨[⟨34,fun _=>bp bh e3,some 6⟩],_,[[],[8],[9],[8,9],[8,9,10]],J,⟨(fun _=>J),be⟩,J,J,J,J,J,⟨fun sg=>ah J (bw dK J J),fun sg=>ah J (bw dK J J),fun sg=>ah J (bw dK J J),fun sg=>ah J (bw dK J J),fun sg=>ah J (bw dK J J),be⟩⟩,
   ⟨⟨[],_,[([],[8]),([9],[8,9])],J,be,J,J,J,J,J,⟨fun sg=>eG J (p5 (r:=bh) (x:=DH) dK (fun _=>nh _)),fun sg=>eG J (EffOK.post_imp (post:=fun x__=>(fun(sg:Nat→OI)=>[bx bh 149 ((sg 8).h 0).2 DH,bx bh 149 ((sg 9).h 0).2 DH]) (DX sg 8 x__)) (p5 (r:=bh) (x:=DH) dK (fun _=>nh _)) (fun h=>db.pick [1,0] J h)),be⟩⟩,
   ⟨⟨[],_,[([],[9]),([8],[8,9])],J,be,J,J,J,J,J,⟨fun sg=>eG J (p5 (r:=bh) (x:=DH) dK (fun _=>nh _)),fun sg=>eG J (p5 (r:=bh) (x:=DH) dK (fun _=>nh _)),be⟩⟩,
   ⟨⟨[⟨7,fun sg=>tV (aF ((sg 8).h 0).2 0),some 8⟩,⟨31,fun _=>tD bh e2,some 3⟩],_,[([8,9],[8,9,10])],J,⟨(fun _=>J),(fun _=>J),be⟩,J,J,J,J,J,⟨fun sg=>eG J (EffOK.fr1 (gD dK J (MU ay) J (ht J) (ht J))),be⟩⟩,
   be⟩⟩⟩⟩⟩⟩⟩⟩⟩⟩⟩ (fun sg=>?_)
  refine(show RG _ _ _ _ [bx bh 149 ((sg 8).h 0).2 e2,bx bh 149 ((sg 9).h 0).2 DH] _ from ?_);refine aV 7 J<|aE dK J ay J (ht J) (ht J)<|aV 8 J<|ap<|ae<|au<|zo J (bY iS eE J J)<|zo J (bw bK J J)<|zo J (qZ J)<|ax J<|cw J J (fun hg=>bY iS eE J J)<|cw J J (fun hg=>aL bK J J (aI J hg))<|cw J J (fun hg=>cZ (aI J hg) hI)<|zo J (oQ J J)<|ap<|dh h J (fun h=>?_) (fun h=>?_)
  ·refine au<|zo J (dA)<|zo J (dA)<|zo J (eL)<|ap<|al<|aa ?_;cases so h;exact mu J J J J
  ·refine dz<|ae ?_
   refine eb (ts:=[_,_,_,_,_,_,_,_,_,_,_,_]) mixed J J
    ⟨gF 7 J J J (bY mh ic J J),
    ⟨cL 44 0 J J J (bw bK J J),
    ⟨gF 8 J J J (bY mh ic J J),
    ⟨cL 46 2 J J J (bw bK J J),
    ⟨eu 45 1 47 3 J J J J (qA (ht J) (ht J)),
    ⟨gF 7 J J J (bY mh ic J J),
    ⟨cL 49 5 J J J (bw bK J J),
    ⟨gF 8 J J J (bY mh ic J J),
    ⟨cL 51 7 J J J (bw bK J J),
    ⟨eu 50 6 52 8 J J J J (wU (ht J) (ht J)),
    ⟨cL 48 4 J J J (xx J),
    ⟨cL 53 9 J J J (xx J),
    be⟩⟩⟩⟩⟩⟩⟩⟩⟩⟩⟩⟩ ?_
   refine am<|ae<|au<|ax rfl<|ax rfl<|zo rfl (dG (ht rfl) (ht rfl))<|ax rfl<|cw rfl rfl (fun hg=>cz J)<|cw J J (fun hg=>cz J)<|cw J J (fun hg=>ep (aI J hg) (aI J hg))<|zo J (oQ J J)<|ap<|dh h J (fun h=>?_) (fun h=>?_)
   ·refine au<|zo J (dA)<|zo J (dA)<|zo J (eL)<|ap<|al<|aa ?_;cases so h;exact mu J J J J
   ·refine dz<|au<|ax J<|ax J<|ax J<|zo J (gj (ht J) (ht J))<|bo J<|bo J<|zo J (eL)<|ap<|al ?_;cases so h;exact mu J J J J

theorem Nx(n:aZ)(a1:bB)(b:bB)(left:Int){R:Bool}(h:wc n a1 b left=some R):aW aM 79 [tD aS n,tD bJ a1,tD bJ b,bQ left] (gu R):=by
 refine aW.of Tryz.func79 J J J fun w0 S0=>au<|zo J (kZ J)<|zo J (kZ J)<|zo J (kZ J)<|zo J (eL)<|ap<|ae<|au<|zo J (bY kz fa J J)<|zo J (bw bK J J)<|zo J (jk J)<|ap<|dh h J (fun h=>?_) (fun h=>?_)
 ·refine au<|zo J (bY kz fa J J)<|zo J (bw bK J J)<|zo J (qZ J)<|bo J<|ap<|al<|aa ?_;cases so h;exact aB J J
 ·refine dz<|ae<|au<|zo J (bY kz fa J J)<|zo J (bw bK J J)<|zo J (qZ J)<|ax J<|cw J J (fun hg=>bY kz fa J J)<|cw J J (fun hg=>aL bK J J (aI J hg))<|cw J J (fun hg=>cZ (aI J hg) hI)<|zo J (oQ J J)<|ax J<|cw J J (fun hg=>bY oJ ja J J)<|cw J J (fun hg=>aL bZ J J (aI J hg))<|cw J J (fun hg=>bR dd (aI J hg))<|cw J J (fun hg=>bY oJ ja J J)<|cw J J (fun hg=>aL bZ J J (aI J hg))<|cw J J (fun hg=>bR dd (aI J hg))<|cw J J (fun hg=>cZ (aI J hg) (aI J hg))<|zo J (oQ J J)<|ax J<|bF h fun t q_t h=>?_;refine cw J J (fun hg=>bY yJ oI J J)<|cw J J (fun hg=>aL kV J J (aI J hg)) ?_
  obtain⟨r,h1t,h0t⟩:=og q_t
  have q_rg:=fun hb=>(h1t hb).1
  refine cw J J (fun hg=>aJ QA (Lk _ (q_rg hg)) ⟨(aI J hg),be⟩)<|cw J J (fun hg=>dn (aI J hg))<|zo J (dV (ht J) (fun hb=>(aI J (mz hb))) (fun hb=>(h1t hb).2) h0t)<|ap<|dh h J (fun h=>?_) (fun h=>?_)
  ·refine au<|zo J (eL)<|ap<|al<|aa ?_;cases so h;exact aB J J
  ·refine dz<|au<|Dv (fun y:Bool=>gu y) Hb J fun b1=>bo J<|ap<|ae<|au<|zo J (bY yJ oI J J)<|zo J (bw kV J J)<|bF h fun r1 q_r1 h=>jj Qz (IW _ q_r1) ⟨(ht J),be⟩ J fun l c=>zo J (eT A2 (.head _) (ht J))<|zo J (bg hI)<|ap<|av<|kQ (.head _) fun hN=>bu ?_;refine aG (kB (Z:=fun ls i held=>(r1.drop i=ls)∧md a1 b left ls held=some R) (Of:=fun _ i held=>[cC cm 45 l c r1,CX (fun y:Bool=>gu y) Hb b1 held]) (Gf:=fun _ i held=>[(3,bQ left),(5,bp bJ a1),(6,bp bJ b),(9,tV (lw b1)),(48,nJ l c r1),(49,gR r1),(50,bQ (i:Int))]) (fun i held h=>?_) (fun e tl ih i held h=>?_) r1 0 ([]:List ((Int×Int)×Bool)) ⟨J,h⟩) (aX J)
   ·obtain⟨hx,h⟩:=h
    refine aq<|au<|zo J (eD J J)<|ap<|ae<|bn (ht J) (cW hx)<|aY ?_;refine ac (ac (aC ?_));refine am<|ae<|au<|zo rfl (bY oJ ja rfl rfl)<|zo rfl (bw bZ rfl rfl)<|zo rfl (gJ dd rfl)<|zo rfl (bg hI)<|ap<|av<|aP (k:=68) J fun hN1=>bu<|nd ?_;refine aG (dk (Z:=fun ls1 i1=>(a1.Cols.drop i1=ls1)∧oz b held ls1 i1=some R) (Of:=fun _ i1=>[CX (fun y:Bool=>gu y) Hb b1 held]) (Gf:=fun _ i1=>[(5,bp bJ a1),(6,bp bJ b),(9,tV (lw b1)),(69,gR a1.Cols),(70,bQ (i1:Int))]) (fun i1 h=>?_) (fun e1 tl1 ih1 i1 h=>?_) a1.Cols 0 ⟨J,h⟩) (aX J)
    ·obtain⟨hx1,h⟩:=h
     refine aq<|au<|zo J (eD J J)<|ap<|ae<|bn (ht J) (cW hx1)<|aY ?_;refine ac (ac (aC ?_));refine am<|au<|zo rfl (eL)<|ap<|al<|bv ?_;cases so h;exact aB J J
    ·obtain⟨hx1,h⟩:=h
     refine aq<|au<|zo J (eD J J)<|ap<|ae<|bm (ht J) (cR hx1)<|dz<|ae<|av<|au<|ax J<|bo J<|ap<|ae<|bF h fun e2 q_e2 h=>?_
     refine eb (ts:=[_,_,_,_,_,_,_,_,_,_,_,_,_,_]) mixed J J
      ⟨gF 9 J J J (cz J),
      ⟨gF 5 J J J (bY oJ ja J J),
      ⟨cL 74 1 J J J (bw bZ J J),
      ⟨gF 15 J J J (cz J),
      ⟨eu 75 2 76 3 J J J J (im dd bK J J J (cS hx1)),
      ⟨cL 77 4 J J J (bw bK J J),
      ⟨gF 6 J J J (bY oJ ja J J),
      ⟨cL 79 6 J J J (bw bZ J J),
      ⟨gF 15 J J J (cz J),
      ⟨eu 80 7 81 8 J J J J (im dd bK J J J q_e2),
      ⟨cL 82 9 J J J (bw bK J J),
      ⟨eu 78 5 83 10 J J J J (nZ (r:=bV) (ys:=[e1,e2]) (xs:=[.tmp 78,.tmp 83]) xl bK J wH J J ⟨(ht J),(ht J),be⟩),
      ⟨eu 73 0 84 11 J J J J (Er (γ:=fun y:Bool=>tD rB y) (z:=false) Tryz.underlying58 (Hc xl iF bK J LH) zv4 (fun S=>⟨_,J,(fun _=>J) S⟩) (.head _) (ht J) (IA (ht J))),
      ⟨cL 85 12 J J J (dn (ht J)),
      be⟩⟩⟩⟩⟩⟩⟩⟩⟩⟩⟩⟩⟩⟩ ?_
     refine am<|dh h rfl (fun h=>?_) (fun h=>?_)
     ·refine au<|zo J (eL)<|ap<|al ?_;refine aA (aa (aa (aA (aa ?_))));refine bv ?_;cases so h;exact aB J J
     ·refine bt<|ak<|am<|ai<|zo rfl (jN (cy hx1 hN1) rfl)<|ax rfl<|aH ?_;exact aO (aG (ih1 (i1+1) ⟨cx hx1,h⟩) (aX J))
   ·obtain⟨hx,h⟩:=h
    refine aq<|au<|zo J (eD J J)<|ap<|ae<|bm (ht J) (cR hx)<|dz<|ae<|av<|au<|zo J (cH A2 kV (.head _) (ht J) (ht J) (cS hx))<|zo J (ew (r:=cm) (i:=(i:Int)) (foff:=0) kV J J cO J (.head _) (cS hx) (ht J))<|bc (r:=cm) (x:=tm) kV (fun _=>wQ _) J fun b2=>aE kV J ay J (ht J) (ht J)<|aV 11 J<|ap<|au<|zo J (bw kV J J) ?_;refine ax J<|bF h fun r2 q_r2 h=>zo J (aJ Qy (Lj _ _ q_r2) ⟨(ht J),(ht J),be⟩)<|ax J<|zo J (lg J J)<|zo J (lg J J)<|zo J (lg J J)<|bo J<|bo J<|bo J<|ap<|au<|ax J<|ap<|dh h J (fun h=>?_) (fun h=>?_)
    ·refine ai<|ax J<|ax J<|ax J<|zo J (nZ (r:=bV) (ys:=[r2.1,r2.2.1]) (xs:=[.tmp 63,.tmp 64]) xl bK J wH J J ⟨(ht J),(ht J),be⟩)<|ca<|LT (γ:=fun y:Bool=>gu y) Tryz.underlying58 (Hc xl iF bK J LH) (ht J) (IA (ht J)) hB<|aH<|ak<|am<|ai<|zo rfl (jN (cy hx hN) rfl)<|ax rfl<|aH<|br ?_;exact aO (aG (ih (i+1) (gm held (k2 ([r2.1,r2.2.1])) true) ⟨cx hx,h⟩) (aX J))
    ·refine bt<|ak<|am<|ai<|zo rfl (jN (cy hx hN) rfl)<|ax rfl<|aH ?_;exact aO (aG (ih (i+1) held ⟨cx hx,h⟩) (aX J))

theorem Li(keys:(List Int))(c:Int){R:Bool}(h:oB keys c=some R):aW aM 155 [bQ c,bp gr keys] (gu R):=by
 refine aW.of Tryz.func155 J J J fun w0 S0=>au<|zo J (eL)<|ap<|au<|zo J (bw bZ J J)<|ax J<|bF h fun r q_r h=>zo J (aJ N4 (EI _ _ q_r) ⟨(ht J),(ht J),be⟩)<|zo J (dn (ht J))<|bo J<|ap<|al ?_;cases so h;exact aB J J

theorem Nw(a1:bB)(keys:(List Int)){R:Bool}(h:uu a1 keys=some R):aW aM 80 [tD bJ a1,kC keys] (gu R):=by
 refine aW.of Tryz.func80 J J J fun w0 S0=>au<|zo J (kZ J)<|zo J (kZ J)<|zo J (eL)<|ap<|au<|zo J (bY kz fa J J)<|zo J (bw bK J J)<|zo J (jk J)<|ax J<|bF h fun t q_t h=>bC J J (fun hg=>bY oJ ja J J)<|bC J J (fun hg=>aL bZ J J (aI J hg))<|bC J J (fun hg=>(show bL _ _ _ _ ((eN aM xr kS (fun(x:Int)=>(oB keys) x)))from gk (cts:=[bp gr keys]) (caps:=[.tmp 3]) Qx ⟨(ht J),be⟩ (fun x y h=>Li _ _ h))) ?_
 obtain⟨r,h1t,h0t⟩:=og q_t
 have q_rg:=fun hb=>(h1t hb).1
 refine bC J J (fun hg=>aJ AM (sG _ _ (q_rg hg)) ⟨(aI J hg),(aI J hg),be⟩)<|bC J J (fun hg=>dn (aI J hg))<|zo J (cV (ht J) (fun hb=>(aI J hb)) (fun hb=>(h1t hb).2) h0t)<|bo J<|ap<|al ?_;cases so h;exact aB J J

theorem Nv(s1:(List kj))(s2:(List kj)){R:Bool}(h:jJ s1 s2=some R):aW aM 81 [d6 (lr) s1,d6 (lr) s2] (gu R):=by
 refine aW.of Tryz.func81 J J J fun w0 S0=>au<|zo J (eL)<|ap<|ae<|au<|ax J<|zo J (gJ A1 J)<|ax J<|zo J (gJ A1 J)<|zo J (cZ (ht J) (ht J))<|ap<|dh h J (fun h=>?_) (fun h=>?_)
 ·refine au<|zo J (eL)<|ap<|al<|aa ?_;cases so h;exact aB J J
 ·refine dz<|ae<|au<|ax J<|zo J (gJ A1 J)<|zo J (bg hI)<|ap<|av<|aP (k:=11) J fun hN=>bu ?_;refine aG (dk (Z:=fun ls i=>(s1.drop i=ls)∧fF s2 ls i=some R) (Of:=fun _ i=>[]) (Gf:=fun _ i=>[(0,d6 (lr) s1),(1,d6 (lr) s2),(12,gR s1),(13,bQ (i:Int))]) (fun i h=>?_) (fun e tl ih i h=>?_) s1 0 ⟨J,h⟩) (aX J)
  ·obtain⟨hx,h⟩:=h
   refine aq<|au<|zo J (eD J J)<|ap<|ae<|bn (ht J) (cW hx)<|aY ?_;refine ac (ac (aC ?_));refine am<|au<|zo rfl (eL)<|ap<|al ?_;cases so h;exact aB J J
  ·obtain⟨hx,h⟩:=h
   refine aq<|au<|zo J (eD J J)<|ap<|ae<|bm (ht J) (cR hx)<|dz<|ae<|av<|au<|ax J<|bo J<|ap<|ae<|bF h fun e1 q_e1 h=>?_
   refine eb (ts:=[_,_,_,_,_,_,_,_,_]) mixed J J
    ⟨gF 0 J J J (cz J),
    ⟨gF 5 J J J (cz J),
    ⟨eu 16 0 17 1 J J J J (im A1 z6 J J J (cS hx)),
    ⟨cL 18 2 J J J (bw z6 J J),
    ⟨gF 1 J J J (cz J),
    ⟨gF 5 J J J (cz J),
    ⟨eu 20 4 21 5 J J J J (im A1 z6 J J J q_e1),
    ⟨cL 22 6 J J J (bw z6 J J),
    ⟨eu 19 3 23 7 J J J J (wT Px (ht J) (ht J)),
    be⟩⟩⟩⟩⟩⟩⟩⟩⟩ ?_
   refine am<|dh h rfl (fun h=>?_) (fun h=>?_)
   ·refine au<|zo J (eL)<|ap<|al ?_;refine aA (aa (aa (aA (aa ?_))));cases so h;exact aB J J
   ·refine bt<|ak<|am<|ai<|zo rfl (jN (cy hx hN) rfl)<|ax rfl<|aH ?_;exact aO (aG (ih (i+1) ⟨cx hx,h⟩) (aX J))

theorem NL(p:(Option bN))(frag:Int)(at1:Int)(l:(List bB)){R:Bool}(h:oC p frag at1 l=some R):aW aM 43 [tD mF p,bQ frag,bQ at1,d6 (bJ) l] (gu R):=by
 refine aW.of Tryz.func43 J J J fun w0 S0=>au<|zo J (eL)<|ap<|au<|ax J<|bF h fun p1 q_p1 h=>zo J (dY (ht J) q_p1)<|zo J (bY nc gb J J)<|zo J (bY lB fT J J)<|zo J (bw tt J J)<|ax J<|bF h fun e q_e h=>zo J (im pK jI J J J q_e)<|zo J (bw jI J J)<|bc (r:=cr) (x:=A9) jI (fun _=>lU _) J fun b=>aE jI J ay J (ht J) (ht J)<|aV 9 J<|ap<|ae ?_;refine ai<|zo J (bY qK kO J J)<|zo J (bw wI J J)<|ax J<|bF h fun e1 q_e1 h=>zo J (im n9 eM J J J q_e1)<|zo J (bw eM J J)<|bc (r:=aS) (x:=Ck) eM (fun _=>eK _) J fun b1=>aE eM J ay J (ht J) (ht J)<|aV 10 J<|ap ?_;refine AU (Z:=j4 p frag l e e1=some R) (Of:=[]) (Gf:=[(0,tD mF p),(1,bQ frag),(3,d6 (bJ) l),(9,bp cr e),(10,bp aS e1)]) (fun h=>?_) (fun K=>?_)
 ·skip
  refine ae<|au<|zo J (bY tN mU J J)<|zo J (bw bK J J)<|zo J (jk J)<|ax J<|cw J J (fun hg=>bY rX ky J J)<|cw J J (fun hg=>aL bK J J (aI J hg))<|cw J J (fun hg=>ep (aI J hg) hI)<|zo J (oQ J J)<|ap<|dh h J (fun h=>?_) (fun h=>?_)
  ·refine au<|zo J (eL)<|ap<|al<|aa ?_;cases so h;exact aB J J
  ·refine dz<|au<|ax J<|zo J (bY rX ky J J)<|zo J (bw bK J J)<|bF h fun e2 q_e2 h=>zo J (im sL ec J J J q_e2)<|zo J (bw ec J J)<|bc (r:=bJ) (x:=xq) ec (fun _=>gK _) J fun b2=>aE ec J ay J (ht J) (ht J)<|aV 13 J<|ap<|ae<|au<|zo J (bY gN cT J J)<|zo J (bw bK J J)<|ap<|av<|ae ?_;refine ai<|zo J (jk J)<|bo J<|ap<|dh h J (fun h=>?_) (fun h=>?_)
   ·refine ae<|bF h fun e3 q_e3 h=>bF h fun p2 q_p2 h=>bF h fun e4 q_e4 h=>bF h fun e5 q_e5 h=>bF h fun r q_r h=>?_
    refine eb (ts:=[_,_,_,_,_,_,_,_,_,_,_,_,_,_,_,_,_,_,_,_,_]) mixed J J
     ⟨gF 10 J J J (bw eM J J),
     ⟨gF 13 J J J (bw ec J J),
     ⟨gF 3 J J J (cz J),
     ⟨gF 10 J J J (bY vG mT J J),
     ⟨cL 75 3 J J J (bw bK J J),
     ⟨eu 74 2 76 4 J J J J (im sL ec J J J q_e3),
     ⟨cL 77 5 J J J (bw ec J J),
     ⟨gF 0 J J J (cz J),
     ⟨cL 79 7 J J J (dY (ht J) q_p2),
     ⟨cL 80 8 J J J (bY wZ uK J J),
     ⟨cL 81 9 J J J (bw Fj J J),
     ⟨gF 1 J J J (cz J),
     ⟨eu 82 10 83 11 J J J J (im Tryz.underlying161 zq J J J q_e4),
     ⟨cL 84 12 J J J (bw zq J J),
     ⟨gF 10 J J J (bY rX ky J J),
     ⟨cL 86 14 J J J (bw bK J J),
     ⟨eu 85 13 87 15 J J J J (im ro bZ J J J q_e5),
     ⟨cL 88 16 J J J (bw bZ J J),
     ⟨cL 89 17 J J J (gJ dd J),
     ⟨⟨[⟨72,_,some 0⟩,⟨73,_,some 1⟩,⟨78,_,some 6⟩,⟨90,_,some 18⟩],_,J,⟨J,J,J,J,be⟩,J,J,ah J (aJ RZ (Nx _ _ _ _ q_r) ⟨(ht J),(ht J),(ht J),(ht J),be⟩)⟩,
     ⟨cL 91 19 J J J (xx J),
     be⟩⟩⟩⟩⟩⟩⟩⟩⟩⟩⟩⟩⟩⟩⟩⟩⟩⟩⟩⟩⟩ ?_
    refine am<|al ?_;refine aA (aa ?_);cases so h;exact aB J J
   ·refine au<|zo J (jk J)<|bo J<|ap<|dh h J (fun h=>?_) (fun h=>?_)
    ·refine au<|zo J (bY kz fa J J)<|zo J (bw bK J J)<|zo J (qZ J)<|ax J<|bF h fun t q_t h=>bC J J (fun hg=>cz J)<|bC J J (fun hg=>bY vG mT J J)<|bC J J (fun hg=>aL bK J J (aI J hg)) ?_
     obtain⟨e6,h1t,h0t⟩:=og q_t
     have q_e6g:=fun hb=>(h1t hb).1
     refine bC J J (fun hg=>b9 sL ec J (aI J hg) (aI J hg) (q_e6g hg))<|bC J J (fun hg=>cI kz J fa J (aI J hg))<|bC J J (fun hg=>aL bK J J (aI J hg))<|bC J J (fun hg=>cZ (aI J hg) hI)<|zo J (cV (ht J) (fun hb=>(aI J hb)) (fun hb=>(h1t hb).2) h0t)<|bo J<|ap<|al ?_;refine aA (aa ?_);cases so h;exact aB J J
    ·refine fX (Z:=fun x=>j3 p frag e e1 e2 x=some R) (Of:=fun x=>[]) (Gf:=fun x=>[(0,tD mF p),(1,bQ frag),(9,bp cr e),(10,bp aS e1),(13,bp bJ e2),(69,bQ e1.Op),(106,gu x)]) (fun x h=>?_) (fun K1=>?_)
     ·skip
      refine dh h J (fun h=>?_) (fun h=>?_)
      ·refine au<|zo J (bw ec J J)<|zo J (bY mg fv J J)<|zo J (bw bZ J J)<|bF h fun r1 q_r1 h=>zo J (aJ RY (Nw _ _ q_r1) ⟨(ht J),(ht J),be⟩)<|bo J<|ap<|al ?_;refine aA (aa ?_);cases so h;exact aB J J
      ·refine au<|zo J (jk J)<|bo J<|ap<|dh h J (fun h=>?_) (fun h=>?_)
       ·refine au<|zo J (bY kz fa J J)<|zo J (bw bK J J)<|zo J (jk J)<|bo J<|ap<|al ?_;refine aA (aa ?_);cases so h;exact aB J J
       ·refine au<|zo J (jk J)<|bo J<|ap<|dh h J (fun h=>?_) (fun h=>?_)
        ·refine au<|zo J (bY kz fa J J)<|zo J (bw bK J J)<|zo J (qZ J)<|bo J<|ap<|al ?_;refine aA (aa ?_);cases so h;exact aB J J
        ·refine au<|zo J (jk J)<|bo J<|ap<|dh h J (fun h=>?_) (fun h=>?_)
         ·refine au<|ax J<|ax J<|bF h fun r2 q_r2 h=>zo J (aJ PA (IQ _ _ q_r2) ⟨(ht J),(ht J),be⟩)<|bc (r:=aS) (x:=Ck) eM (fun _=>eK _) J fun b3=>aE eM J ay J (ht J) (ht J)<|aV 14 J<|ap<|au<|zo J (bY kz fa J J)<|zo J (bw bK J J)<|zo J (qZ J)<|ax J<|bC J J (fun hg=>bY rY lN J J)<|bC J J (fun hg=>aL bK J J (aI J hg))<|bC J J (fun hg=>bD (aI J hg) hI)<|zo J (ki J J)<|ax J<|bC J J (fun hg=>bY gN cT J J)<|bC J J (fun hg=>aL bK J J (aI J hg)) ?_;refine bC J J (fun hg=>bD (aI J hg) hI)<|zo J (ki J J)<|ax J<|bC J J (fun hg=>bY uL nu J J)<|bC J J (fun hg=>aL bK J J (aI J hg))<|bC J J (fun hg=>bY uL nu J J)<|bC J J (fun hg=>aL bK J J (aI J hg))<|bC J J (fun hg=>bD (aI J hg) (aI J hg))<|zo J (ki J J)<|ax J<|bF h fun t1 q_t1 h=>bC J J (fun hg=>bY uM nv J J)<|bC J J (fun hg=>aL H4 J J (aI J hg))<|bC J J (fun hg=>bY uM nv J J)<|bC J J (fun hg=>aL H4 J J (aI J hg)) ?_
          obtain⟨r3,h1t1,h0t1⟩:=og q_t1
          have q_r3g:=fun hb=>(h1t1 hb).1
          refine bC J J (fun hg=>aJ RX (Nv _ _ (q_r3g hg)) ⟨(aI J hg),(aI J hg),be⟩)<|zo J (cV (ht J) (fun hb=>(aI J hb)) (fun hb=>(h1t1 hb).2) h0t1)<|bo J<|ap<|al ?_;refine aA (aa ?_);cases so h;exact aB J J
         ·refine bt<|ak<|am<|au<|zo rfl (eL)<|ap<|al ?_;cases so h;exact aB J J
     ·skip
      refine au<|zo J (jk J)<|bo J<|ap<|dh h J (fun h=>?_) (fun h=>?_)
      ·refine bt ?_;exact bX (K1 (e1.Op==(4:Int)) h) (aX J)
      ·refine ai<|zo J (jk J)<|bo J<|aH ?_;exact bX (K1 (e1.Op==(11:Int)) h) (aX J)
 ·skip
  refine au<|zo J (bY gN cT J J)<|zo J (bw bK J J)<|zo J (jk J)<|ap<|dh h J (fun h=>?_) (fun h=>?_)
  ·refine au<|ax J<|ax J<|bF h fun r4 q_r4 h=>zo J (aJ PA (IQ _ _ q_r4) ⟨(ht J),(ht J),be⟩)<|bc (r:=aS) (x:=Ck) eM (fun _=>eK _) J fun b4=>aE eM J ay J (ht J) (ht J)<|aV 11 J<|ap<|au<|zo J (bY mV fU J J)<|zo J (bw vl J J)<|zo J (bY mV fU J J)<|zo J (bw vl J J)<|bF h fun r5 q_r5 h=>zo J (aJ R4 (Nz _ _ _ q_r5) ⟨(ht J),(ht J),(zM R3 fun x y h=>Ny _ _ h),be⟩)<|bo J<|ap<|au ?_;refine zo J (bY gN cT J J)<|zo J (bw bK J J)<|zo J (qZ J)<|ax J<|cw J J (fun hg=>cz J)<|cw J J (fun hg=>dn (aI J hg))<|zo J (oQ J J)<|ax J<|cw J J (fun hg=>bY mg fv J J)<|cw J J (fun hg=>aL bZ J J (aI J hg))<|cw J J (fun hg=>bR dd (aI J hg))<|cw J J (fun hg=>bY mg fv J J)<|cw J J (fun hg=>aL bZ J J (aI J hg))<|cw J J (fun hg=>bR dd (aI J hg))<|cw J J (fun hg=>cZ (aI J hg) (aI J hg))<|zo J (oQ J J)<|ap<|dh h J (fun h=>?_) (fun h=>?_)
   ·refine au<|zo J (eL)<|ap<|al<|aa ?_;cases so h;exact aB J J
   ·refine bt ?_;exact bX (K h) (aX J)
  ·refine bt ?_;exact bX (K h) (aX J)

theorem NV(q:eC)(c:aT){R:Int×Int×Int}(h:tB q c=some R):aW aM 12 [tD df q,tD bP c] (tT [bQ R.1,bQ R.2.1,bQ R.2.2]):=by
 refine aW.of Tryz.func12 J J J fun w0 S0=>au<|zo J (kZ J)<|zo J (kZ J)<|zo J (dA)<|zo J (dA)<|zo J (dA)<|ap<|zf<|au<|zo J (bw px J J)<|zo J (bw kl J J)<|bF h fun r q_r h=>zo J (aJ N6 (EK _ _ q_r) ⟨(ht J),(ht J),be⟩)<|ax J<|zo J (lg J J)<|zo J (lg J J)<|zo J (lg J J)<|zo J (lg J J)<|bo J<|bo J ?_;refine bo J<|bo J<|ap<|ae<|au<|ax J<|zo J (qZ J)<|ap<|dh h J (fun h=>?_) (fun h=>?_)
 ·refine au<|ax J<|ax J<|ax J<|bo J<|bo J<|bo J<|ap<|al ?_;refine aa (lQ ?_);cases so h;exact mu J J J J
 ·refine dz<|au<|zo J (dA)<|zo J (dA)<|ap<|ae<|zg<|am<|ae<|au<|zo rfl (bY lB fT rfl rfl)<|zo rfl (bw tt rfl rfl)<|zo rfl (gJ pK rfl)<|zo rfl (bg hI)<|ap ?_;refine HJ (Z:=fun frag place=>m9 frag place=some R) (Of:=fun frag place=>[]) (Gf:=fun frag place=>[(11,bQ frag),(12,bQ place)]) (fun frag place h=>?_) (fun K=>?_)
  ·skip
   refine am<|ae<|au<|ax rfl<|zo rfl (dG (ht rfl) hI)<|ap<|dh h rfl (fun h=>?_) (fun h=>?_)
   ·refine au<|ax J<|ax J<|bo J<|bo J<|zo J (dA)<|ap<|al ?_;refine aa (lQ ?_);cases so h;exact mu J J J J
   ·refine dz<|au<|zo J (dA)<|zo J (dA)<|zo J (dA)<|ap<|al<|lQ ?_;cases so h;exact mu J J J J
  ·skip
   refine aP (k:=31) J fun hN=>bu ?_;refine aG (oO (Z:=fun ls i frag1 place1=>(q.Frags.drop i=ls)∧m8 r ls i frag1 place1=some R) (Of:=fun _ i frag1 place1=>[]) (Gf:=fun _ i frag1 place1=>[(7,tD mF r.1),(11,bQ frag1),(12,bQ place1),(31,d6 (cr) q.Frags),(32,gR q.Frags),(33,bQ (i:Int))]) (fun i frag1 place1 h=>?_) (fun e tl ih i frag1 place1 h=>?_) q.Frags 0 my (0:Int) ⟨J,h⟩) (aX J)
   ·obtain⟨hx,h⟩:=h
    refine aq<|au<|zo J (eD J J)<|ap<|ae<|bn (ht J) (cW hx)<|aY ?_;refine ac (ac (aC ?_));exact bX (K frag1 place1 h) (aX J)
   ·obtain⟨hx,h⟩:=h
    refine aq<|au<|zo J (eD J J)<|ap<|ae<|bm (ht J) (cR hx)<|dz<|ae<|av<|au<|ax J<|zo J (im pK jI J J J (cS hx))<|zo J (bw jI J J)<|bc (r:=cr) (x:=A9) jI (fun _=>lU _) J fun b=>bo J<|aE jI J ay J (ht J) (ht J)<|aV 14 J<|ap<|ae ?_;refine ai<|ax J<|ax J<|bF h fun r1 q_r1 h=>jj PC (FK _ _ q_r1) ⟨(ht J),(ht J),be⟩ J fun l c1=>bo J<|ap<|ae<|au<|zo J (bY qK kO J J)<|zo J (bw wI J J)<|zo J (gJ n9 J)<|zo J (bg hI)<|ap<|av<|aP (k:=42) J fun hN1=>bu<|vN<|u6 40 J<|u6 15 J ?_;refine aG (oO (Z:=fun ls1 i1 frag2 place2=>(e.Nodes.drop i1=ls1)∧pA r (m8 r tl) i r1 ls1 i1 frag2 place2=some R) (Of:=fun _ i1 frag2 place2=>[fA bJ 55 l c1 r1]) (Gf:=fun _ i1 frag2 place2=>[(7,tD mF r.1),(11,bQ frag2),(12,bQ place2),(13,bQ (i:Int)),(15,tO bJ l c1 r1),(31,d6 (cr) q.Frags),(32,gR q.Frags),(33,bQ (i:Int)),(43,gR e.Nodes),(44,bQ (i1:Int))]) (fun i1 frag2 place2 h=>?_) (fun e1 tl1 ih1 i1 frag2 place2 h=>?_) e.Nodes 0 frag1 place1 ⟨J,h⟩) (aX J)
    ·obtain⟨hx1,h⟩:=h
     refine aq<|au<|zo J (eD J J)<|ap<|ae<|bn (ht J) (cW hx1)<|aY ?_;refine ac (ac (aC ?_));refine am<|au<|ax rfl<|ax rfl<|zo rfl (bR sL (rx (ht rfl)))<|zo rfl (gj (ht rfl) hI)<|bF h fun e2 q_e2 h=>zo J (b9 sL ec J (rx (ht J)) (ht J) q_e2)<|zo J (bY kz fa J J)<|zo J (bw bK J J)<|zo J (jk J)<|ap<|dh h J (fun h=>?_) (fun h=>?_)
     ·refine au<|ax J<|ax J<|zo J (bR sL (rx (ht J)))<|zo J (gj (ht J) hI)<|bo J<|bo J<|ap<|aY ?_;refine bE J (ac (ac (aC ?_)));refine bv ?_;exact bX (K (i:Int) (IntKind.i64.wrap ((r1.length:Int)-(1:Int))) h) (aX J)
     ·refine bt<|ak<|am<|ai<|zo rfl (jN (cy hx hN) rfl)<|ax rfl<|aH<|bv ?_;exact aO (aG (ih (i+1) frag2 place2 ⟨cx hx,h⟩) (aX J))
    ·obtain⟨hx1,h⟩:=h
     refine aq<|au<|zo J (eD J J)<|ap<|ae<|bm (ht J) (cR hx1)<|dz<|ae<|av<|au<|ax J<|bo J<|ap<|au<|ax J<|ax J<|ax J<|ax J ?_;refine bF h fun r2 q_r2 h=>zo J (aJ Si (NL _ _ _ _ q_r2) ⟨(ht J),(ht J),(ht J),(rx (ht J)),be⟩)<|zo J (dn (ht J))<|ap<|dh h J (fun h=>?_) (fun h=>?_)
     ·refine au<|ax J<|ax J<|bo J<|bo J<|ap<|aY ?_;refine bE J (ac (ac (bE J (ac (bE J (ac (ac (aC ?_))))))));refine bv ?_;exact bX (K (i:Int) (i1:Int) h) (aX J)
     ·refine bt<|ak<|am<|ai<|zo rfl (jN (cy hx1 hN1) rfl)<|ax rfl<|aH ?_;exact aO (aG (ih1 (i1+1) frag2 place2 ⟨cx hx1,h⟩) (aX J))

end Go.Proofs.YtmogpgcfognefaaGreatDoor

