/- di of this claim: P10. -/
import Derived.Test.YtmogpgcfognefaaGreatDoorNdT
import Derived.Test.YtmogpgcfognefaaGreatDoorNdP9
set_option linter.all false
namespace Go.Proofs.YtmogpgcfognefaaGreatDoor
open Go
set_option maxRecDepth 100000

theorem O7(q:da)(c:bG)(frag:Int){R:(List aS)×Int}(h:ml q c frag=some R):bh be 13 [tD ce q,tD bJ c,bY frag] (tT [eV (aR) R.1,bY R.2]):=by
 refine bh.of Tryz.func13 J J J fun w0 S0=>an<|zo J (lK J)<|zo J (lK J)<|zo J (aP (show aL _ _ _ (eV (aR) ([]))from lJ))<|zo J (dv)<|al<|an<|zo J (bj mg J J)<|zo J (bj n9 J J)<|bM h fun r q_r h=>zo J (aH UJ (JW _ _ q_r) ⟨(ht J),(ht J),bm⟩)<|ax J<|zo J (iA J J)<|zo J (iA J J)<|zo J (iA J J)<|zo J (iA J J)<|aY J<|aY J<|aY J<|aY J ?_;refine al<|ae<|an<|ax J<|zo J (uP J)<|al<|cz h J (fun h=>?_) (fun h=>?_)
 ·refine an<|ax J<|zo J (aP (show aL _ _ _ (eV (aR) ([]))from lJ))<|aY J<|al<|aj<|aa ?_;cases so h;exact cy J J J
 ·refine dF<|ae<|an<|ax J<|zo J (eg (ht J) hI)<|ax J<|bX J J (fun hg=>cq J)<|bX J J (fun hg=>bw fY dp J J)<|bX J J (fun hg=>aF nS J J (aG J hg))<|bX J J (fun hg=>bg kE (aG J hg))<|bX J J (fun hg=>cS (aG J hg) (aG J hg))<|zo J (lH J J)<|al<|cz h J (fun h=>?_) (fun h=>?_)
  ·refine an<|zo J (aP (show aL _ _ _ (eV (aR) ([]))from lJ))<|zo J (dv)<|al<|aj<|aa ?_;cases so h;exact cy J J J
  ·refine dF<|an<|ax J<|ax J<|bM h fun r1 q_r1 h=>kC We (Lg _ _ q_r1) ⟨(ht J),(ht J),bm⟩ J fun l c1=>aY J<|zo J (dv)<|al<|aj<|gL<|eK 6 J<|eK 34 J<|mT 6 J<|aX ?_;cases so h;exact cy J J J

theorem Us{R:bG×da}(h:Bf=some R):bh be 32 [] (tT [tD bJ R.1,tD ce R.2]):=by
 refine bh.of Tryz.func32 J J J fun w0 S0=>an<|aZ (r:=bJ) (x:=wr) n9 (fun _=>oe _) J fun b=>aZ (r:=ce) (x:=Ad) mg (fun _=>tK _) J fun b1=>al<|an<|zo J (cI (y:=Tj) pg VH qT (⟨_,_,_,_,_,J,A6,J,hS,⟨_,_,_,_,_,J,A5,J,hI,J⟩⟩))<|zo J (cI (y:=Tk) pg VH qT (⟨_,_,_,_,_,J,A6,J,hS,⟨_,_,_,_,_,J,A5,J,hI,J⟩⟩))<|zo J (ba (r:=cH) (ys:=[Tj,Tk]) (xs:=[.tmp 4,.tmp 5]) sb pg J J J J J ⟨(ht J),(ht J),bm⟩)<|zo J (ba (r:=cC) (ys:=[(0:Int)]) (xs:=[.const (.int .i64 (0))]) cZ br J J J J J ⟨hI,bm⟩)<|zo J (cI (y:=Ts) qi X5 Cm (⟨_,_,_,_,_,J,Jf,J,hS,⟨_,_,_,_,_,J,CC,J,(ht J),⟨_,_,_,_,_,J,CB,J,(ht J),J⟩⟩⟩))<|zo J (ba (r:=cT) (ys:=[Ts]) (xs:=[.tmp 8]) rC qi J J J J J ⟨(ht J),bm⟩)<|zo J (cI (y:=(⟨[Ts]⟩:bG)) n9 VJ oe (⟨_,_,_,_,_,J,FX,J,(ht J),J⟩))<|aZ (r:=bJ) (x:=wr) n9 (fun _=>oe _) J fun b2=>aE n9 J ay J (ht J) (ht J)<|aW 2 J<|al<|an<|zo J (ba (r:=cC) (ys:=[(2:Int),(2:Int)]) (xs:=[.const (.int .i64 (2)),.const (.int .i64 (2))]) cZ br J J J J J ⟨hI,hI,bm⟩) ?_;refine aY J<|al<|an<|zo J (bj n9 J J)<|ax J<|zo J (cI (y:=Tq) db JP ev (⟨_,_,_,_,_,J,pF,J,hI,⟨_,_,_,_,_,J,s0,J,hI,⟨_,_,_,_,_,J,sZ,J,hI,⟨_,_,_,_,_,J,vq,J,(ht J),J⟩⟩⟩⟩))<|zo J (cI (y:=Tp) db JP ev (⟨_,_,_,_,_,J,pF,J,hI,⟨_,_,_,_,_,J,s0,J,hI,⟨_,_,_,_,_,J,sZ,J,hI,J⟩⟩⟩))<|zo J (ba (r:=aA) (ys:=[Tq,Tp]) (xs:=[.tmp 14,.tmp 15]) ib db J J J J J ⟨(ht J),(ht J),bm⟩)<|zo J (cI (y:=XN) fN VI mu (⟨_,_,_,_,_,J,EN,J,hI,⟨_,_,_,_,_,J,EM,J,hI,⟨_,_,_,_,_,J,Ah,J,(ht J),J⟩⟩⟩))<|ax J<|zo J (cI (y:=XM) db JP ev (⟨_,_,_,_,_,J,pF,J,hI,⟨_,_,_,_,_,J,s0,J,hI,⟨_,_,_,_,_,J,sZ,J,hI,⟨_,_,_,_,_,J,vq,J,(ht J),J⟩⟩⟩⟩))<|zo J (ba (r:=aA) (ys:=[XM]) (xs:=[.tmp 19]) ib db J J J J J ⟨(ht J),bm⟩)<|zo J (cI (y:=Tl) fN VI mu (⟨_,_,_,_,_,J,EN,J,hI,⟨_,_,_,_,_,J,EM,J,hI,⟨_,_,_,_,_,J,Ah,J,(ht J),J⟩⟩⟩))<|zo J (ba (r:=bR) (ys:=[XN,Tl]) (xs:=[.tmp 17,.tmp 21]) kE fN J J J J J ⟨(ht J),(ht J),bm⟩)<|zo J (cI (y:=(⟨[XN,Tl]⟩:da)) mg TW tK (⟨_,_,_,_,_,J,Ms,J,(ht J),J⟩))<|cg<|aE n9 J ay J (ht J) (ht J)<|aW 0 J<|aE mg J ay J (ht J) (ht J)<|aW 1 J<|al ?_;refine aj ?_;cases so h;exact G0 J J ⟨rK n9 J J J,rK mg J J J,bm⟩

theorem VT{R:Bool}(h:wK=some R):bh be 8 [] (gD R):=by
 refine bh.of Tryz.func8 J J J fun w0 S0=>an<|zo J (ei)<|al<|an<|bM h fun r q_r h=>zo J (aH YR (Us q_r) trivial)<|ax J<|zo J (iA J J)<|zo J (iA J J)<|aZ (r:=bJ) (x:=wr) n9 (fun _=>oe _) J fun b=>aZ (r:=ce) (x:=Ad) mg (fun _=>tK _) J fun b1=>cg<|aE n9 J ay J (ht J) (ht J)<|aW 1 J<|aE mg J ay J (ht J) (ht J)<|aW 2 J<|al<|an ?_;refine zo J (bj mg J J)<|zo J (bj n9 J J)<|bM h fun r1 q_r1 h=>zo J (aH YW (Uy _ _ q_r1) ⟨(ht J),(ht J),bm⟩)<|ax J<|zo J (iA J J)<|zo J (iA J J)<|zo J (iA J J)<|aY J<|aY J<|aY J<|al<|an<|zo J (bj mg J J)<|zo J (bj n9 J J)<|bM h fun r2 q_r2 h=>zo J (aH Xq (O7 _ _ _ q_r2) ⟨(ht J),(ht J),hI,bm⟩)<|ax J<|zo J (iA J J)<|zo J (iA J J)<|aY J<|aY J ?_;refine al<|an<|zo J (cI (y:=Ad) mg TW tK (J))<|zo J (bj n9 J J)<|bM h fun r3 q_r3 h=>zo J (aH YX (Uz _ _ q_r3) ⟨(ht J),(ht J),bm⟩)<|ax J<|zo J (iA J J)<|zo J (iA J J)<|zo J (iA J J)<|aY J<|aY J<|aY J<|al<|an<|zo J (bj mg J J)<|bM h fun r4 q_r4 h=>zo J (aH Pq (Dn _ _ q_r4) ⟨(ht J),hI,bm⟩)<|ax J<|zo J (iA J J) ?_;refine zo J (iA J J)<|zo J (iA J J)<|aY J<|aY J<|aY J<|al<|an<|ax J<|zo J (eQ J)<|ax J<|bo J J (fun hg=>cq J)<|bo J J (fun hg=>bq (aG J hg) hI)<|zo J (hZ J J)<|ax J<|bo J J (fun hg=>cq J)<|bo J J (fun hg=>bq (aG J hg) hI)<|zo J (hZ J J)<|ax J<|bo J J (fun hg=>cq J)<|zo J (hZ J J)<|ax J<|bo J J (fun hg=>cq J) ?_;refine bo J J (fun hg=>bq (aG J hg) hI)<|zo J (hZ J J)<|ax J<|bo J J (fun hg=>cq J)<|bo J J (fun hg=>bq (aG J hg) hI)<|zo J (hZ J J)<|ax J<|bo J J (fun hg=>cq J)<|bo J J (fun hg=>bg kD (aG J hg))<|bo J J (fun hg=>bq (aG J hg) hI)<|zo J (hZ J J)<|ax J<|bM h fun t q_t h=>bo J J (fun hg=>cq J) ?_
 obtain⟨e,h1t,h0t⟩:=og q_t
 have q_eg:=fun hb=>(h1t hb).1
 refine bo J J (fun hg=>bW kD cD J (aG J hg) hI (q_eg hg))<|bo J J (fun hg=>cR mM J gi J (aG J hg))<|bo J J (fun hg=>aF br J J (aG J hg))<|bo J J (fun hg=>bq (aG J hg) hI)<|zo J (cu (ht J) (fun hb=>(aG J hb)) (fun hb=>(h1t hb).2) h0t)<|ax J<|bM h fun t1 q_t1 h=>bo J J (fun hg=>cq J) ?_
 obtain⟨e1,h1t1,h0t1⟩:=og q_t1
 have q_e1g:=fun hb=>(h1t1 hb).1
 refine bo J J (fun hg=>bW kD cD J (aG J hg) hI (q_e1g hg))<|bo J J (fun hg=>cR oQ J jt J (aG J hg))<|bo J J (fun hg=>aF bV J J (aG J hg))<|bo J J (fun hg=>bg cZ (aG J hg))<|bo J J (fun hg=>bq (aG J hg) hI)<|zo J (cu (ht J) (fun hb=>(aG J hb)) (fun hb=>(h1t1 hb).2) h0t1)<|aY J<|al<|aj ?_;cases so h;exact aB J J

theorem QJ(l:(List bU))(most:Int){R:(List bU)}(h:my l most=some R):gk be 33 [eV (cT) l,bY most] false cT 40 R:=by
 refine gk.of Tryz.func33 J J J fun w0 S0=>an<|cm false cT 40<|zo J (aP tE)<|al<|an<|gy (r:=cT) (ys:=([]:List bU)) (xs:=[]) rC qi J J J J J trivial J fun l1 c=>ax J<|ax J<|zo J (fU rC J)<|ax J<|zo J (pw (ht J) (ht J))<|bM h fun y q_y h=>zo J (nc rC qi J (ht J) (ht J) q_y)<|bM h fun x q_x h=>cn qi J J J J rC J J (ht J) (ht J) q_x fun l2 c1=>aY J<|al<|aj ?_;cases so h;exact iu J J
theorem QI(l:(List bL))(most:Int){R:(List bL)}(h:jU l most=some R):gk be 34 [eV (cH) l,bY most] false cH 42 R:=by
 refine gk.of Tryz.func34 J J J fun w0 S0=>an<|cm false cH 42<|zo J (aP tE)<|al<|an<|gy (r:=cH) (ys:=([]:List bL)) (xs:=[]) sb pg J J J J J trivial J fun l1 c=>ax J<|ax J<|zo J (fU sb J)<|ax J<|zo J (pw (ht J) (ht J))<|bM h fun y q_y h=>zo J (nc sb pg J (ht J) (ht J) q_y)<|bM h fun x q_x h=>cn pg J J J J sb J J (ht J) (ht J) q_x fun l2 c1=>aY J<|al<|aj ?_;cases so h;exact iu J J
theorem Ur(l:(List bL))(most:Int){R:(List bL)}(h:jU l most=some R):bh be 34 [eV (cH) l,bY most] (eV (cH) R):=(QI _ _ h).spec

theorem QH(l:(List Int))(most:Int){R:(List Int)}(h:gC l most=some R):gk be 35 [ji l,bY most] false cC 3 R:=by
 refine gk.of Tryz.func35 J J J fun w0 S0=>an<|cm false cC 3<|zo J (aP tE)<|al<|an<|gy (r:=cC) (ys:=ny) (xs:=[]) cZ br J J J J J trivial J fun l1 c=>ax J<|ax J<|zo J (fU cZ J)<|ax J<|zo J (pw (ht J) (ht J))<|bM h fun y q_y h=>zo J (nc cZ br J (ht J) (ht J) q_y)<|bM h fun x q_x h=>cn br J J J J cZ J J (ht J) (ht J) q_x fun l2 c1=>aY J<|al<|aj ?_;cases so h;exact iu J J
theorem Gy(l:(List Int))(most:Int){R:(List Int)}(h:gC l most=some R):bh be 35 [ji l,bY most] (ji R):=(QH _ _ h).spec

theorem Le(c:bG){R:bG}(h:ub c=some R):bh be 9 [tD bJ c] (tD bJ R):=by
 refine bh.of Tryz.func9 J J J fun w0 S0=>an<|zo J (lK J)<|aZ (r:=bJ) (x:=wr) n9 (fun _=>oe _) J fun b=>al<|an<|zo J (bw nV fI J J)<|zo J (bj vl J J)<|bM h fun r q_r h=>kC YQ (QJ _ _ q_r) ⟨(ht J),hI,bm⟩ J fun l c1=>zo J (cI (y:=jF (⟨r⟩:bG) (aD l c1 r.length)) n9 VJ yT (⟨_,_,_,_,_,J,Cy,J,(Bg (ht J)),J⟩))<|cm false cT 40<|aZ (r:=iF) (x:=jF wr (aD none 0 (([]:List bU).length))) n9 yT J fun b1=>dP n9 J (iX J) J (ht J) (ht J)<|cg<|uo<|al<|ae<|an ?_;refine zo J (fi 0 nV J J J)<|zo J (fa vl qG (.head _) J (ht J))<|zo J (fc rC (.tail _ (.head _)) (ht J))<|zo J (bk hI)<|al<|ap<|jI (.tail _ (.head _)) fun hN=>bE<|dW<|dW<|ka ?_;refine aJ (jY (Z:=fun ls i out=>(r.drop i=ls)∧oJ ls i out=some R) (Of:=fun _ i out=>[bx bJ 24 b wr,bx iF 24 b1 (jF out (aD l c1 out.Tables.length)),cY cT 40 l c1 out.Tables]) (Gf:=fun _ i out=>[(2,tV (aN b 0)),(3,tV (aN b1 0)),(11,mU l c1 r),(12,gA r),(13,bY (i:Int))]) (fun i out h=>?_) (fun e tl ih i out h=>?_) r 0 ({(⟨r⟩:bG)with Tables:=r}:bG) ⟨J,h⟩) (aQ J)
 ·obtain⟨hx,h⟩:=h
  refine av<|an<|zo J (eu J J)<|al<|ae<|bu (ht J) (dh hx)<|bf ?_;refine ac (ac (aI ?_));refine ai<|an<|fD<|ja<|zo rfl (nd (q:=bJ) (y:=out) n9 J J J J (.tail _ (.tail _ (.head _))) (fun _ _ _ ho h=>zI (jl ho (.head _)) h) (ht J))<|cg<|aE n9 J ay J (ht J) (ht J)<|aW 2 J<|al<|aj<|aX<|aX ?_;cases so h;exact gz J n9 J J J
 ·obtain⟨hx,h⟩:=h
  refine av<|an<|zo J (eu J J)<|al<|ae<|bt (ht J) (dg hx)<|dF<|ae<|ap<|an<|ax J<|bM h fun e1 q_e1 h=>zo J (pn rC qi (.tail _ (.tail _ (.head _))) (ht J) (ht J) q_e1 (GJ hx))<|bM h fun e2 q_e2 h=>zo J (dj (r:=cT) (i:=(i:Int)) (foff:=0) qi J J bO J (.tail _ (.tail _ (.head _))) q_e2 (ht J))<|aZ (r:=cT) (x:=(⟨[],[],[]⟩:bU)) qi (fun _=>Cm _) J fun b2=>aY J<|aE qi J ay J (ht J) (ht J)<|aW 5 J<|aC ?_;refine ai<|bM h fun r1 q_r1 h=>bM h fun r2 q_r2 h=>bM h fun st q_st h=>?_
  refine rZ 15 [tc (tV (aN b1 0)),tc (mU l c1 out.Tables),tc (bY (i:Int)),tc (tV (aN b1 0)),tc (mU l c1 out.Tables),tc (bY (i:Int)),tc (bF (eX cH) e2.Columns),tc (eV (cH) e2.Columns),tc (eV (cH) r1),tc (bF jd e2.Keys),tc (ji e2.Keys),tc (ji r2),tc (tV (kz l ((i:Int).toNat*3+0))),tc (tV (kz l ((i:Int).toNat*3+1))),tc (BH)] [false,false,false,false,false,false,false,false,false,false,false,false,false,false,true] [fun _=>[bx bJ 24 b wr,bx iF 24 b1 (jF out (aD l c1 out.Tables.length)),cY cT 40 l c1 out.Tables],fun sg=>[cY cT 40 l c1 st,bx bJ 24 b wr,bx iF 24 b1 (jF out (aD l c1 out.Tables.length))]] J mixed J J J J J
   ⟨⟨[⟨3,fun _=>tV (aN b1 0),none⟩],_,0,0,J,⟨(fun _=>J),bm⟩,J,J,J,J,J,fun _ sg _ _=>ak J (fi 0 nV J J J)⟩,
   ⟨⟨[⟨18,fun _=>tV (aN b1 0),some 0⟩],_,0,0,J,⟨(fun _=>J),bm⟩,J,J,J,J,J,tG (fun sg=>ak J (fa vl qG (.tail _ (.head _)) J (ht J)))⟩,
   ⟨⟨[⟨4,fun _=>tD cC (i:Int),none⟩],_,0,0,J,⟨(fun _=>J),bm⟩,J,J,J,J,J,fun _ sg _ _=>ak J (cq J)⟩,
   ⟨⟨[⟨3,fun _=>tV (aN b1 0),none⟩],_,0,1,J,⟨(fun _=>J),bm⟩,J,J,J,J,J,fun _ sg _ _=>ak J (fi 0 nV J J J)⟩,
   ⟨⟨[⟨21,fun _=>tV (aN b1 0),some 3⟩],_,0,1,J,⟨(fun _=>J),bm⟩,J,J,J,J,J,D5 (fun sg=>ak J (fa vl qG (.tail _ (.head _)) J (ht J))) (tG (fun sg=>ak J (fa vl qG (.tail _ (.tail _ (.head _))) J (ht J))))⟩,
   ⟨⟨[⟨4,fun _=>tD cC (i:Int),none⟩],_,0,1,J,⟨(fun _=>J),bm⟩,J,J,J,J,J,fun _ sg _ _=>ak J (cq J)⟩,
   ⟨⟨[⟨5,fun _=>bF cT e2,none⟩],_,0,0,J,⟨(fun _=>J),bm⟩,J,J,J,J,J,fun _ sg _ _=>ak J (bw pJ iQ J J)⟩,
   ⟨⟨[⟨24,fun _=>bF (eX cH) e2.Columns,some 6⟩],_,0,0,J,⟨(fun _=>J),bm⟩,J,J,J,J,J,fun _ sg _ _=>ak J (bj yc J J)⟩,
   ⟨⟨[⟨25,fun _=>tD (eX cH) e2.Columns,some 7⟩],_,0,0,J,⟨(fun _=>J),bm⟩,J,J,J,J,J,fun _ sg _ _=>ak J (aH YP (Ur _ _ q_r1) ⟨(ht J),hI,bm⟩)⟩,
   ⟨⟨[⟨5,fun _=>bF cT e2,none⟩],_,0,0,J,⟨(fun _=>J),bm⟩,J,J,J,J,J,fun _ sg _ _=>ak J (bw tp mp J J)⟩,
   ⟨⟨[⟨27,fun _=>bF sd e2.Keys,some 9⟩],_,0,0,J,⟨(fun _=>J),bm⟩,J,J,J,J,J,fun _ sg _ _=>ak J (bj bV J J)⟩,
   ⟨⟨[⟨28,fun _=>tD sd e2.Keys,some 10⟩],_,0,0,J,⟨(fun _=>J),bm⟩,J,J,J,J,J,fun _ sg _ _=>ak J (aH Sm (Gy _ _ q_r2) ⟨(ht J),hI,bm⟩)⟩,
   ⟨⟨[⟨19,fun _=>tV (aD l c1 out.Tables.length),some 1⟩,⟨20,fun _=>tD cC (i:Int),some 2⟩],_,0,0,J,⟨(fun _=>J),(fun _=>J),bm⟩,J,J,J,J,J,tG (fun sg=>ak J (bT rC qi (.tail _ (.tail _ (.head _))) (ht J) (ht J) q_e2))⟩,
   ⟨⟨[⟨30,fun _=>tV (kz l ((i:Int).toNat*3+0)),some 12⟩],_,0,0,J,⟨(fun _=>J),bm⟩,J,J,J,J,J,tG (fun sg=>ak J (hU (o:=(i:Int).toNat*3+0) (n:=(i:Int).toNat*3+1) pJ J (.tail _ (.tail _ (.head _))) q_e2 (ht J) J))⟩,
   ⟨⟨[⟨31,fun _=>tV (kz l ((i:Int).toNat*3+1)),some 13⟩,⟨26,fun _=>tD (eX cH) r1,some 8⟩],_,J,⟨(fun _=>J),(fun _=>J),bm⟩,J,J,J,fun sg=>ea J (EffOK.fr2 (J1 (r:=cT) (i:=(i:Int)) (foff:=1) yc J CC J q_e2 (so q_st) (ht J) (ht J)))⟩,
   bm⟩⟩⟩⟩⟩⟩⟩⟩⟩⟩⟩⟩⟩⟩⟩ (fun sg=>?_)
  refine(show RG _ _ _ _ [cY cT 40 l c1 st,bx bJ 24 b wr,bx iF 24 b1 (jF out (aD l c1 out.Tables.length))] _ from ?_);refine pq (O' :=[cY cT 40 l c1 st,bx bJ 24 b wr,bx iF 24 b1 (jF out (aD l c1 st.length))]) (by rw [iq (so q_st)])<|bM h fun e3 q_e3 h=>zo J (bT rC qi (.head _) (ht J) (ht J) q_e3 ((iq (so q_st)).symm))<|zo J (hU (o:=(i:Int).toNat*3+0) (n:=(i:Int).toNat*3+2) tp J (.head _) q_e3 (ht J) J)<|bM h fun st1 q_st1 h=>lP bV J CB J q_e3 (so q_st1) (ht J) (ht J)<|pq (O' :=[cY cT 40 l c1 st1,bx bJ 24 b wr,bx iF 24 b1 (jF out (aD l c1 st1.length))]) (by rw [iq (so q_st1)])<|aC<|af<|ai<|ah<|zo rfl (je (cx hx hN) rfl)<|ax rfl<|aC<|bc<|bc ?_;exact aM (aJ (ih (i+1) ({out with Tables:=st1}:bG) ⟨cw hx,h⟩) (aQ J))

theorem QG(l:(List aw))(most:Int){R:(List aw)}(h:mz l most=some R):gk be 36 [eV (aA) l,bY most] false aA 50 R:=by
 refine gk.of Tryz.func36 J J J fun w0 S0=>an<|cm false aA 50<|zo J (aP tE)<|al<|an<|gy (r:=aA) (ys:=([]:List aw)) (xs:=[]) ib db J J J J J trivial J fun l1 c=>ax J<|ax J<|zo J (fU ib J)<|ax J<|zo J (pw (ht J) (ht J))<|bM h fun y q_y h=>zo J (nc ib db J (ht J) (ht J) q_y)<|bM h fun x q_x h=>cn db J J J J ib J J (ht J) (ht J) q_x fun l2 c1=>aY J<|al<|aj ?_;cases so h;exact iu J J
theorem QF(l:(List gm))(most:Int){R:(List gm)}(h:nY l most=some R):gk be 37 [eV (dz) l,bY most] false dz 107 R:=by
 refine gk.of Tryz.func37 J J J fun w0 S0=>an<|cm false dz 107<|zo J (aP tE)<|al<|an<|gy (r:=dz) (ys:=([]:List gm)) (xs:=[]) nw gS J J J J J trivial J fun l1 c=>ax J<|ax J<|zo J (fU nw J)<|ax J<|zo J (pw (ht J) (ht J))<|bM h fun y q_y h=>zo J (nc nw gS J (ht J) (ht J) q_y)<|bM h fun x q_x h=>cn gS J J J J nw J J (ht J) (ht J) q_x fun l2 c1=>aY J<|al<|aj ?_;cases so h;exact iu J J
theorem QE(l:(List bp))(most:Int){R:(List bp)}(h:nf l most=some R):gk be 38 [eV (bn) l,bY most] false bn 45 R:=by
 refine gk.of Tryz.func38 J J J fun w0 S0=>an<|cm false bn 45<|zo J (aP tE)<|al<|an<|gy (r:=bn) (ys:=IZ) (xs:=[]) rD fG J J J J J trivial J fun l1 c=>ax J<|ax J<|zo J (fU rD J)<|ax J<|zo J (pw (ht J) (ht J))<|bM h fun y q_y h=>zo J (nc rD fG J (ht J) (ht J) q_y)<|bM h fun x q_x h=>cn fG J J J J rD J J (ht J) (ht J) q_x fun l2 c1=>aY J<|al<|aj ?_;cases so h;exact iu J J
theorem QD(l:(List kW))(most:Int){R:(List kW)}(h:l0 l most=some R):gk be 39 [eV (iG) l,bY most] false iG 111 R:=by
 refine gk.of Tryz.func39 J J J fun w0 S0=>an<|cm false iG 111<|zo J (aP tE)<|al<|an<|gy (r:=iG) (ys:=([]:List kW)) (xs:=[]) ve wu J J J J J trivial J fun l1 c=>ax J<|ax J<|zo J (fU ve J)<|ax J<|zo J (pw (ht J) (ht J))<|bM h fun y q_y h=>zo J (nc ve wu J (ht J) (ht J) q_y)<|bM h fun x q_x h=>cn wu J J J J ve J J (ht J) (ht J) q_x fun l2 c1=>aY J<|al<|aj ?_;cases so h;exact iu J J
theorem Uq(l:(List kW))(most:Int){R:(List kW)}(h:l0 l most=some R):bh be 39 [eV (iG) l,bY most] (eV (iG) R):=(QD _ _ h).spec

theorem Qy(l:(List bD))(most:Int){R:(List bD)}(h:mA l most=some R):gk be 72 [eV (aV) l,bY most] false aV 149 R:=by
 refine gk.of Tryz.func72 J J J fun w0 S0=>an<|cm false aV 149<|zo J (aP tE)<|al<|an<|gy (r:=aV) (ys:=I0) (xs:=[]) pi dk J J J J J trivial J fun l1 c=>ax J<|ax J<|zo J (fU pi J)<|ax J<|zo J (pw (ht J) (ht J))<|bM h fun y q_y h=>zo J (nc pi dk J (ht J) (ht J) q_y)<|bM h fun x q_x h=>cn dk J J J J pi J J (ht J) (ht J) q_x fun l2 c1=>aY J<|al<|aj ?_;cases so h;exact iu J J
theorem JX(e:bp){R:bp}(h:p6 e=some R):bh be 40 [tD bn e] (tD bn R):=by
 refine bh.of Tryz.func40 J J J fun w0 S0=>an<|zo J (lK J)<|aZ (r:=bn) (x:=se) fG (fun _=>qe _) J fun b=>al<|an<|zo J (bw d3 cU J J)<|zo J (bj jZ J J)<|bM h fun r q_r h=>kC Yu (Qy _ _ q_r) ⟨(ht J),hI,bm⟩ J fun l c=>zo J (cI (y:=gI (⟨r⟩:bp) (aD l c r.length)) fG VG uO (⟨_,_,_,_,_,J,A4,J,(Bg (ht J)),J⟩))<|cm false aV 149<|aZ (r:=gG) (x:=gI se (aD none 0 (I0.length))) fG uO J fun b1=>dP fG J (iX J) J (ht J) (ht J)<|cg<|uo<|al<|ae<|an ?_;refine zo J (fi 0 d3 J J J)<|zo J (fa jZ mb (.head _) J (ht J))<|zo J (fc pi (.tail _ (.head _)) (ht J))<|zo J (bk hI)<|al<|ap<|jI (.tail _ (.head _)) fun hN=>bE<|dW<|dW<|ka ?_;refine aJ (jY (Z:=fun ls i out=>(r.drop i=ls)∧oK ls i out=some R) (Of:=fun _ i out=>[bx bn 45 b se,bx gG 45 b1 (gI out (aD l c out.Nodes.length)),cY aV 149 l c out.Nodes]) (Gf:=fun _ i out=>[(2,tV (aN b 0)),(3,tV (aN b1 0)),(12,gA r),(13,bY (i:Int))]) (fun i out h=>?_) (fun e1 tl ih i out h=>?_) r 0 ({(⟨r⟩:bp)with Nodes:=r}:bp) ⟨J,h⟩) (aQ J)
 ·obtain⟨hx,h⟩:=h
  refine av<|an<|zo J (eu J J)<|al<|ae<|bu (ht J) (dh hx)<|bf ?_;refine ac (ac (aI ?_));refine ai<|an<|fD<|ja<|zo rfl (nd (q:=bn) (y:=out) fG J J J J (.tail _ (.tail _ (.head _))) (fun _ _ _ ho h=>tt (jl ho (.head _)) h) (ht J))<|cg<|aE fG J ay J (ht J) (ht J)<|aW 2 J<|al<|aj<|aX<|aX ?_;cases so h;exact gz J fG J J J
 ·obtain⟨hx,h⟩:=h
  refine av<|an<|zo J (eu J J)<|al<|ae<|bt (ht J) (dg hx)<|dF<|ae<|ap<|an<|ax J<|aY J<|al<|an<|zo J (fi 0 d3 J J J)<|zo J (fa jZ mb (.tail _ (.head _)) J (ht J))<|ax J<|bM h fun e2 q_e2 h=>?_;refine zo J (bT pi dk (.tail _ (.tail _ (.head _))) (ht J) (ht J) q_e2)<|zo J (hU (o:=(i:Int).toNat*8+0) (n:=(i:Int).toNat*8+4) sF J (.tail _ (.tail _ (.head _))) q_e2 (ht J) J)<|zo J (hU (o:=(i:Int).toNat*8+4) (n:=(i:Int).toNat*8+7) yy J (.tail _ (.tail _ (.head _))) q_e2 (ht J) J)<|aY J<|al<|bM h fun y q_y h=>?_
  refine pr 11 (ts:=[tV (kz l ((i:Int).toNat*8+7)),tV (kz l ((i:Int).toNat*8+7)),tV (kz l ((i:Int).toNat*8+7)),tD rS e2.Value.S,tV (kz l ((i:Int).toNat*8+7)),tV (kz l ((i:Int).toNat*8+7)),tD rS e2.Value.S,gA e2.Value.S,bY (min (e2.Value.S.length:Int) (41:Int)),tD rS y,tV (kz l ((i:Int).toNat*8+7))]) mixed J J J
   ⟨ic 5 J J J (cq J),
   ⟨ic 5 J J J (cq J),
   ⟨dc 23 1 J J J (sD (.tail _ (.tail _ (.head _))) q_e2 (ht J)),
   ⟨dc 24 2 J J J (dj (r:=aV) (i:=(i:Int)) (foff:=7) z6 J J (gw lx oN) J (.tail _ (.tail _ (.head _))) q_e2 (ht J)),
   ⟨ic 5 J J J (cq J),
   ⟨dc 26 4 J J J (sD (.tail _ (.tail _ (.head _))) q_e2 (ht J)),
   ⟨dc 27 5 J J J (dj (r:=aV) (i:=(i:Int)) (foff:=7) z6 J J (gw lx oN) J (.tail _ (.tail _ (.head _))) q_e2 (ht J)),
   ⟨dc 28 6 J J J (ua kq (ht J)),
   ⟨dc 29 7 J J J (pw (ht J) hI),
   ⟨eT 25 3 30 8 J J J J (MF kq (ht J) (ht J) q_y),
   ⟨dc 22 0 J J J (sD (.tail _ (.tail _ (.head _))) q_e2 (ht J)),
   bm⟩⟩⟩⟩⟩⟩⟩⟩⟩⟩⟩ ?_
  refine fD<|bM h fun st q_st h=>lP z6 J (Mj lx Jh Cz) J q_e2 (so q_st) (ht J) (ht J)<|jw (iq (so q_st)) 17 J<|pq (O' :=[cY aV 149 l c st,bx bn 45 b se,bx gG 45 b1 (gI out (aD l c st.length))]) (by rw [iq (so q_st)])<|aC<|af<|ai<|ah<|zo rfl (je (cx hx hN) rfl)<|ax rfl<|aC<|bc<|bc ?_;exact aM (aJ (ih (i+1) ({out with Nodes:=st}:bp) ⟨cw hx,h⟩) (aQ J))

theorem RQ(l:(List aw)){R:(List aw)}(h:rX l=some R):gk be 10 [eV (aA) l] false aA 50 R:=by
 refine gk.of Tryz.func10 J J J fun w0 S0=>an<|cm false aA 50<|zo J (aP tE)<|al<|an<|ax J<|bM h fun r q_r h=>kC YO (QG _ _ q_r) ⟨(ht J),hI,bm⟩ J fun l1 c=>aY J<|al<|ae<|an<|ax J<|zo J (fc ib (.head _) (ht J))<|zo J (bk hI)<|al<|ap ?_;refine jI (.head _) fun hN=>bE<|dW<|pB ?_;refine aJ (LO (Z:=fun k i out=>(r.length-i=k)∧jT k i out=some R) (Of:=fun _ i out=>[cY aA 50 l1 c out]) (Gf:=fun _ i out=>[(3,mU l1 c out),(12,mU l1 c r),(13,gA r),(14,bY (i:Int))]) (fun i out h=>?_) (fun k1 ih i out h=>?_) r.length 0 r ⟨J,h⟩) (aQ J)
 ·obtain⟨hx,h⟩:=h
  refine av<|an<|zo J (eu J J)<|al<|ae<|bu (ht J) (TK hx)<|bf ?_;refine ac (ac (aI ?_));refine ai<|an<|ax rfl<|aY rfl<|al<|aj ?_;cases so h;exact iu J J
 ·obtain⟨hx,h⟩:=h
  refine av<|an<|zo J (eu J J)<|al<|ae<|bt (ht J) (TJ hx)<|dF<|ae<|ap<|an<|ax J<|bM h fun e1 q_e1 h=>zo J (pn ib db (.head _) (ht J) (ht J) q_e1 (Vz hx))<|bM h fun e2 q_e2 h=>zo J (dj (r:=aA) (i:=(i:Int)) (foff:=0) db J J bO J (.head _) q_e2 (ht J))<|cm false dz 107<|cm false bn 45<|aZ (r:=gF) (x:=lY yF (aD none 0 (([]:List gm).length)) (aD none 0 (IZ.length))) db FF J fun b=>aY J<|dP (r' :=aA) (x' :=e2) db J (iX J) J (ht J) (ht J) ?_;refine(show RG _ _ _ _ [bx aA 50 b e2,cY bn 45 none 0 IZ,cY dz 107 none 0 ([]:List gm),cY aA 50 l1 c out] _ from ?_);refine cg<|uo<|cg<|uo<|al<|ae<|bM h fun r1 q_r1 h=>bM h fun r2 q_r2 h=>bM h fun r3 q_r3 h=>bM h fun r4 q_r4 h=>bM h fun r5 q_r5 h=>?_
  refine rZ 16 [tc (tV (aN b 4)),tc (ji e2.Kinds),tc (ji r1),tc (tV (aN b 7)),tc (ji e2.Keys),tc (ji r2),tc (tV (aN b 8)),tc (eV (dz) e2.Aggs),([8],fun s=>tV (aD ((s.getD 0 wk).h 0).1 ((s.getD 0 wk).h 0).2 r3.length)),tc (tV (aN b 9)),tc (eV (bn) e2.Items),([11],fun s=>tV (aD ((s.getD 0 wk).h 0).1 ((s.getD 0 wk).h 0).2 r4.length)),tc (tV (aN b 10)),tc (eV (iG) e2.Order),tc (eV (iG) r5),tc (tV (aN b 4))] [false,false,false,false,false,false,false,false,true,false,false,true,false,false,false,false] [fun _=>[bx aA 50 b e2,cY aA 50 l1 c out],fun sg=>[cY dz 107 ((sg 8).h 0).1 ((sg 8).h 0).2 r3,bx aA 50 b e2,cY aA 50 l1 c out],fun sg=>[cY bn 45 ((sg 11).h 0).1 ((sg 11).h 0).2 r4,cY dz 107 ((sg 8).h 0).1 ((sg 8).h 0).2 r3,bx aA 50 b e2,cY aA 50 l1 c out]] J mixed J J J J J
   ⟨⟨[⟨5,fun _=>tV (aN b 0),none⟩],_,0,0,J,⟨(fun _=>J),bm⟩,J,J,J,J,J,fun _ sg _ _=>ak J (fi 4 jV J J J)⟩,
   ⟨⟨[⟨19,fun _=>tV (aN b 4),some 0⟩],_,0,0,J,⟨(fun _=>J),bm⟩,J,J,J,J,J,tG (fun sg=>ak J (bl bV J J d7 (.head _) (ht J)))⟩,
   ⟨⟨[⟨20,fun _=>tD sd e2.Kinds,some 1⟩],_,0,0,J,⟨(fun _=>J),bm⟩,J,J,J,J,J,fun _ sg _ _=>ak J (aH Sm (Gy _ _ q_r1) ⟨(ht J),hI,bm⟩)⟩,
   ⟨⟨[⟨5,fun _=>tV (aN b 0),none⟩],_,0,0,J,⟨(fun _=>J),bm⟩,J,J,J,J,J,fun _ sg _ _=>ak J (fi 7 jk J J J)⟩,
   ⟨⟨[⟨22,fun _=>tV (aN b 7),some 3⟩],_,0,0,J,⟨(fun _=>J),bm⟩,J,J,J,J,J,tG (fun sg=>ak J (bl bV J J dO (.head _) (ht J)))⟩,
   ⟨⟨[⟨23,fun _=>tD sd e2.Keys,some 4⟩],_,0,0,J,⟨(fun _=>J),bm⟩,J,J,J,J,J,fun _ sg _ _=>ak J (aH Sm (Gy _ _ q_r2) ⟨(ht J),hI,bm⟩)⟩,
   ⟨⟨[⟨5,fun _=>tV (aN b 0),none⟩],_,0,0,J,⟨(fun _=>J),bm⟩,J,J,J,J,J,fun _ sg _ _=>ak J (fi 8 ki J J J)⟩,
   ⟨⟨[⟨25,fun _=>tV (aN b 8),some 6⟩],_,0,0,J,⟨(fun _=>J),bm⟩,J,J,J,J,J,tG (fun sg=>ak J (bl sf J J eO (.head _) (ht J)))⟩,
   ⟨⟨[⟨26,fun _=>tD (eX dz) e2.Aggs,some 7⟩],_,J,⟨(fun _=>J),bm⟩,J,J,J,fun sg=>ea J (Fm (xs:=[.tmp 26,.const (.int .i64 (14))]) (ts:=[tD (eX dz) e2.Aggs,tD cC (14:Int)]) YN (QF _ _ q_r3) ⟨(ht J),hI,bm⟩)⟩,
   ⟨⟨[⟨5,fun _=>tV (aN b 0),none⟩],_,0,1,J,⟨(fun _=>J),bm⟩,J,J,J,J,J,fun _ sg _ _=>ak J (fi 9 rh J J J)⟩,
   ⟨⟨[⟨28,fun _=>tV (aN b 9),some 9⟩],_,0,1,J,⟨(fun _=>J),bm⟩,J,J,J,J,J,D5 (fun sg=>ak J (bl yW J J nh (.head _) (ht J))) (tG (fun sg=>ak J (bl yW J J nh (.tail _ (.head _)) (ht J))))⟩,
   ⟨⟨[⟨29,fun _=>tD (eX bn) e2.Items,some 10⟩],_,J,⟨(fun _=>J),bm⟩,J,J,J,fun sg=>ea J (Fm (xs:=[.tmp 29,.const (.int .i64 (17))]) (ts:=[tD (eX bn) e2.Items,tD cC (17:Int)]) YM (QE _ _ q_r4) ⟨(ht J),hI,bm⟩)⟩,
   ⟨⟨[⟨5,fun _=>tV (aN b 0),none⟩],_,0,2,J,⟨(fun _=>J),bm⟩,J,J,J,J,J,fun _ sg _ _=>ak J (fi 10 px J J J)⟩,
   ⟨⟨[⟨31,fun _=>tV (aN b 10),some 12⟩],_,0,2,J,⟨(fun _=>J),bm⟩,J,J,J,J,J,D5 (fun sg=>ak J (bl yV J J io (.head _) (ht J))) (D5 (fun sg=>ak J (bl yV J J io (.tail _ (.head _)) (ht J))) (tG (fun sg=>ak J (bl yV J J io (.tail _ (.tail _ (.head _))) (ht J)))))⟩,
   ⟨⟨[⟨32,fun _=>tD (eX iG) e2.Order,some 13⟩],_,2,2,J,⟨(fun _=>J),bm⟩,J,J,J,J,J,fun _ sg _ _=>ak J (aH YL (Uq _ _ q_r5) ⟨(ht J),hI,bm⟩)⟩,
   ⟨⟨[⟨5,fun _=>tV (aN b 0),none⟩],_,0,2,J,⟨(fun _=>J),bm⟩,J,J,J,J,J,fun _ sg _ _=>ak J (fi 4 jV J J J)⟩,
   bm⟩⟩⟩⟩⟩⟩⟩⟩⟩⟩⟩⟩⟩⟩⟩⟩ (fun sg=>?_)
  refine(show RG _ _ _ _ [cY bn 45 ((sg 11).h 0).1 ((sg 11).h 0).2 r4,cY dz 107 ((sg 8).h 0).1 ((sg 8).h 0).2 r3,bx aA 50 b e2,cY aA 50 l1 c out] _ from ?_);refine fD<|aE bV J vq J (ht J) (ht J)<|zo J (fi 7 jk J J J)<|aE bV J Jg J (ht J) (ht J)<|zo J (fi 8 ki J J J)<|dP sf J (ye _ _) J (ht J) (Bg (ht J))<|zo J (fi 9 rh J J J)<|dP yW J (vn _ _ _) J (ht J) (Bg (ht J))<|zo J (fi 10 px J J J)<|aE yV J BI J (ht J) (ht J)<|al<|ae<|an<|zo J (fi 8 ki J J J)<|zo J (fa sf wQ (.head _) J (ht J))<|zo J (fc nw (.tail _ (.tail _ (.head _))) (ht J))<|zo J (bk hI)<|al<|ap<|jI (.tail _ (.tail _ (.head _))) fun hN1=>bE ?_;refine dW<|ka<|ka<|fE ?_;refine aJ (jY (Z:=fun ls i1 n=>(r3.drop i1=ls)∧mL (jT k1) i out ls i1 n=some R) (Of:=fun _ i1 n=>[cY aA 50 l1 c out,bx gF 50 b (lY n (aD ((sg 8).h 0).1 ((sg 8).h 0).2 n.Aggs.length) (aD ((sg 11).h 0).1 ((sg 11).h 0).2 n.Items.length)),cY dz 107 ((sg 8).h 0).1 ((sg 8).h 0).2 n.Aggs,cY bn 45 ((sg 11).h 0).1 ((sg 11).h 0).2 n.Items]) (Gf:=fun _ i1 n=>[(3,mU l1 c out),(4,bY (i:Int)),(5,tV (aN b 0)),(12,mU l1 c r),(13,gA r),(14,bY (i:Int)),(40,tV (aD ((sg 8).h 0).1 ((sg 8).h 0).2 r3.length)),(41,gA r3),(42,bY (i1:Int))]) (fun i1 n h=>?_) (fun e3 tl ih1 i1 n h=>?_) r3 0 ({({({(aw.mk e2.Op e2.A e2.B e2.Table r1 e2.Left e2.Cond r2 e2.Aggs e2.Items e2.Order e2.Limit)with Order:=r5}:aw)with Aggs:=r3}:aw)with Items:=r4}:aw) ⟨J,h⟩) (aQ J)
  ·obtain⟨hx1,h⟩:=h
   refine av<|an<|zo J (eu J J)<|al<|ae<|bu (ht J) (dh hx1)<|bf ?_;refine ac (ac (aI ?_));refine ai<|ae<|an<|zo rfl (fi 9 rh rfl rfl rfl)<|zo rfl (fa yW wP (.tail _ (.head _)) rfl (ht rfl))<|zo rfl (fc rD (.tail _ (.tail _ (.tail _ (.head _)))) (ht rfl))<|zo rfl (bk hI)<|al<|ap<|jI (.tail _ (.tail _ (.tail _ (.head _)))) fun hN2=>bE ?_;refine aJ (jY (Z:=fun ls1 i2 n1=>(n.Items.drop i2=ls1)∧mK (jT k1) i out ls1 i2 n1=some R) (Of:=fun _ i2 n1=>[cY aA 50 l1 c out,bx gF 50 b (lY n1 (aD ((sg 8).h 0).1 ((sg 8).h 0).2 n1.Aggs.length) (aD ((sg 11).h 0).1 ((sg 11).h 0).2 n1.Items.length)),cY dz 107 ((sg 8).h 0).1 ((sg 8).h 0).2 n1.Aggs,cY bn 45 ((sg 11).h 0).1 ((sg 11).h 0).2 n1.Items]) (Gf:=fun _ i2 n1=>[(3,mU l1 c out),(4,bY (i:Int)),(5,tV (aN b 0)),(12,mU l1 c r),(13,gA r),(14,bY (i:Int)),(57,tV (aD ((sg 11).h 0).1 ((sg 11).h 0).2 n.Items.length)),(58,gA n.Items),(59,bY (i2:Int))]) (fun i2 n1 h=>?_) (fun e4 tl1 ih2 i2 n1 h=>?_) n.Items 0 n ⟨J,h⟩) (aQ J)
   ·obtain⟨hx2,h⟩:=h
    refine av<|an<|zo J (eu J J)<|al<|ae<|bu (ht J) (dh hx2)<|bf ?_;refine ac (ac (aI ?_));refine ai<|an<|zo rfl (fi 6 uE rfl rfl rfl)<|zo rfl (bl fG rfl rfl Df (.tail _ (.head _)) (ht rfl))<|bM h fun r6 q_r6 h=>zo J (aH UK (JX _ q_r6) ⟨(ht J),bm⟩)<|zo J (fi 6 uE J J J)<|cg<|aE fG J Cx J (ht J) (ht J)<|al<|ah<|ax J<|ax J<|fD<|ja<|em<|ja<|zo J (nd (q:=aA) (y:=({({({n1 with Cond:=r6}:aw)with Aggs:=n1.Aggs}:aw)with Items:=n1.Items}:aw)) db J J J J (.tail _ (.tail _ (.head _))) (fun _ _ _ ho h=>zG (jl ho (.tail _ (.head _))) (jl ho (.head _)) h) (ht J))<|zo J (bT ib db (.tail _ (.tail _ (.tail _ (.head _)))) (ht J) (ht J) q_e2)<|em<|bM h fun st q_st h=>lP db J ay J q_e2 (so q_st) (ht J) (ht J) ?_;refine jw (iq (so q_st)) 3 J<|jw (iq (so q_st)) 75 J<|aC<|af<|ai<|ah<|zo rfl (zk (Qr hx (TM hN)) (ht rfl) hI)<|ax rfl<|aC<|aU<|aX<|aU<|aX<|aU<|aX ?_;exact aM (aJ (ih (i+1) st ⟨Qq hx,h⟩) (aQ J))
   ·obtain⟨hx2,h⟩:=h
    refine av<|an<|zo J (eu J J)<|al<|ae<|bt (ht J) (dg hx2)<|dF<|ae<|ap<|an<|ax J<|bM h fun e5 q_e5 h=>zo J (pn rD fG (.tail _ (.tail _ (.tail _ (.head _)))) (ht J) (ht J) q_e5 (GJ hx2))<|bM h fun e6 q_e6 h=>zo J (dj (r:=bn) (i:=(i2:Int)) (foff:=0) fG J J bO J (.tail _ (.tail _ (.tail _ (.head _)))) q_e6 (ht J))<|aZ (r:=bn) (x:=se) fG (fun _=>qe _) J fun b1=>aY J<|aE fG J ay J (ht J) (ht J)<|aW 9 J<|aC ?_;refine ai<|bM h fun r7 q_r7 h=>?_
    refine pr 6 (ts:=[tV (aN b 9),tV (aD ((sg 11).h 0).1 ((sg 11).h 0).2 n1.Items.length),bY (i2:Int),tD bn e6,tD bn r7,tV (kz ((sg 11).h 0).1 ((i2:Int).toNat*1+0))]) mixed J J J
     ⟨ic 5 J J J (fi 9 rh J J J),
     ⟨dc 64 0 J J J (fa yW wP (.tail _ (.head _)) J (ht J)),
     ⟨ic 8 J J J (cq J),
     ⟨ic 9 J J J (bj fG J J),
     ⟨dc 67 3 J J J (aH UK (JX _ q_r7) ⟨(ht J),bm⟩),
     ⟨eT 65 1 66 2 J J J J (bT rD fG (.tail _ (.tail _ (.tail _ (.head _)))) (ht J) (ht J) q_e6),
     bm⟩⟩⟩⟩⟩⟩ ?_
    refine em<|bM h fun st1 q_st1 h=>lP fG J ay J q_e6 (so q_st1) (ht J) (ht J)<|jw (iq (so q_st1)) 65 J<|pq (O' :=[cY bn 45 ((sg 11).h 0).1 ((sg 11).h 0).2 st1,cY aA 50 l1 c out,bx gF 50 b (lY n1 (aD ((sg 8).h 0).1 ((sg 8).h 0).2 n1.Aggs.length) (aD ((sg 11).h 0).1 ((sg 11).h 0).2 st1.length)),cY dz 107 ((sg 8).h 0).1 ((sg 8).h 0).2 n1.Aggs]) (by rw [iq (so q_st1)])<|aC<|af<|ai<|ah<|zo rfl (je (cx hx2 hN2) rfl)<|ax rfl<|aC<|bS<|bS<|bS ?_;exact aM (aJ (ih2 (i2+1) ({n1 with Items:=st1}:aw) ⟨cw hx2,h⟩) (aQ J))
  ·obtain⟨hx1,h⟩:=h
   refine av<|an<|zo J (eu J J)<|al<|ae<|bt (ht J) (dg hx1)<|dF<|ae<|ap<|an<|ax J<|bM h fun e7 q_e7 h=>zo J (pn nw gS (.tail _ (.tail _ (.head _))) (ht J) (ht J) q_e7 (GJ hx1))<|bM h fun e8 q_e8 h=>zo J (dj (r:=dz) (i:=(i1:Int)) (foff:=0) gS J J bO J (.tail _ (.tail _ (.head _))) q_e8 (ht J))<|aZ (r:=dz) (x:=FK) gS (fun _=>vi _) J fun b2=>aY J<|aE gS J ay J (ht J) (ht J)<|aW 7 J<|aC ?_;refine ai<|bM h fun r8 q_r8 h=>?_
   refine pr 8 (ts:=[tV (aN b 8),tV (aD ((sg 8).h 0).1 ((sg 8).h 0).2 n.Aggs.length),bY (i1:Int),bF bn e8.Arg,tD bn e8.Arg,tD bn r8,tV (kz ((sg 8).h 0).1 ((i1:Int).toNat*2+0)),tV (kz ((sg 8).h 0).1 ((i1:Int).toNat*2+1))]) mixed J J J
    ⟨ic 5 J J J (fi 8 ki J J J),
    ⟨dc 47 0 J J J (fa sf wQ (.tail _ (.head _)) J (ht J)),
    ⟨ic 6 J J J (cq J),
    ⟨ic 7 J J J (bw ry qH J J),
    ⟨dc 50 3 J J J (bj fG J J),
    ⟨dc 51 4 J J J (aH UK (JX _ q_r8) ⟨(ht J),bm⟩),
    ⟨eT 48 1 49 2 J J J J (bT nw gS (.tail _ (.tail _ (.head _))) (ht J) (ht J) q_e8),
    ⟨dc 53 6 J J J (hU (o:=(i1:Int).toNat*2+0) (n:=(i1:Int).toNat*2+1) ry J (.tail _ (.tail _ (.head _))) q_e8 (ht J) J),
    bm⟩⟩⟩⟩⟩⟩⟩⟩ ?_
   refine fD<|bM h fun st2 q_st2 h=>lP fG J N8 J q_e8 (so q_st2) (ht J) (ht J)<|jw (iq (so q_st2)) 48 J<|pq (O' :=[cY dz 107 ((sg 8).h 0).1 ((sg 8).h 0).2 st2,cY aA 50 l1 c out,bx gF 50 b (lY n (aD ((sg 8).h 0).1 ((sg 8).h 0).2 st2.length) (aD ((sg 11).h 0).1 ((sg 11).h 0).2 n.Items.length)),cY bn 45 ((sg 11).h 0).1 ((sg 11).h 0).2 n.Items]) (by rw [iq (so q_st2)])<|aC<|af<|ai<|ah<|zo rfl (je (cx hx1 hN1) rfl)<|ax rfl<|aC<|bS<|aU<|bS<|bS ?_;exact aM (aJ (ih1 (i1+1) ({n with Aggs:=st2}:aw) ⟨cw hx1,h⟩) (aQ J))
theorem UB(l:(List aw)){R:(List aw)}(h:rX l=some R):bh be 10 [eV (aA) l] (eV (aA) R):=(RQ _ h).spec

end Go.Proofs.YtmogpgcfognefaaGreatDoor

