/- cG of this claim: P10. -/
import Derived.Test.YtmogpgcfognefaaGreatDoorNaT
import Derived.Test.YtmogpgcfognefaaGreatDoorNaP9
set_option linter.all false
namespace Go.Proofs.YtmogpgcfognefaaGreatDoor
open Go
set_option maxRecDepth 100000

theorem HJ(q:cZ)(c:bA)(frag:Int){R:(List bu)×Int}(h:m4 q c frag=some R):bg aP 13 [tD cb q,tD bF c,ce frag] (tT [fE (bP) R.1,ce R.2]):=by
 refine bg.of Tryz.func13 J J J fun w0 S0=>au<|zo J (ms J)<|zo J (ms J)<|zo J (ba (show ay _ _ _ (fE (bP) ([]))from uX))<|zo J (fi)<|ap<|au<|zo J (bC lg J J)<|zo J (bC lq J J)<|bO h fun r q_r h=>zo J (aL Mh (DC _ _ q_r) ⟨(ht J),(ht J),aY⟩)<|aA J<|zo J (lA J J)<|zo J (lA J J)<|zo J (lA J J)<|zo J (lA J J)<|bv J<|bv J<|bv J<|bv J ?_;refine ap<|ae<|au<|aA J<|zo J (uz J)<|ap<|dN h J (fun h=>?_) (fun h=>?_)
 ·refine au<|aA J<|zo J (ba (show ay _ _ _ (fE (bP) ([]))from uX))<|bv J<|ap<|am<|aa ?_;cases so h;exact fY J J J
 ·refine eK<|ae<|au<|aA J<|zo J (fz (ht J) hI)<|aA J<|cQ J J (fun hg=>cM J)<|cQ J J (fun hg=>cc iF eo J J)<|cQ J J (fun hg=>aO oM J J (aJ J hg))<|cQ J J (fun hg=>bS lP (aJ J hg))<|cQ J J (fun hg=>ek (aJ J hg) (aJ J hg))<|zo J (pr J J)<|ap<|dN h J (fun h=>?_) (fun h=>?_)
  ·refine au<|zo J (ba (show ay _ _ _ (fE (bP) ([]))from uX))<|zo J (fi)<|ap<|am<|aa ?_;cases so h;exact fY J J J
  ·refine eK<|au<|aA J<|aA J<|bO h fun r1 q_r1 h=>jb NK (EI _ _ q_r1) ⟨(ht J),(ht J),aY⟩ J fun l c1=>bv J<|zo J (fi)<|ap<|am<|ii<|jL 6 J<|jL 34 J<|rP 6 J<|bl ?_;cases so h;exact fY J J J

theorem L5{R:bA×cZ}(h:vE=some R):bg aP 32 [] (tT [tD bF R.1,tD cb R.2]):=by
 refine bg.of Tryz.func32 J J J fun w0 S0=>au<|aZ (r:=bF) (x:=qO) lq (fun _=>kO _) J fun b=>aZ (r:=cb) (x:=uE) lg (fun _=>oQ _) J fun b1=>ap<|au<|zo J (cY (y:=KZ) nY Nc px (⟨_,_,_,_,_,J,vq,J,hS,⟨_,_,_,_,_,J,vp,J,hI,J⟩⟩))<|zo J (cY (y:=K0) nY Nc px (⟨_,_,_,_,_,J,vq,J,hS,⟨_,_,_,_,_,J,vp,J,hI,J⟩⟩))<|zo J (bX (r:=bZ) (ys:=[KZ,K0]) (xs:=[.tmp 4,.tmp 5]) qK nY J J J J J ⟨(ht J),(ht J),aY⟩)<|zo J (bX (r:=bW) (ys:=[(0:Int)]) (xs:=[.const (.int .i64 (0))]) dr bL J J J J J ⟨hI,aY⟩)<|zo J (cY (y:=Lc) oo Ps wN (⟨_,_,_,_,_,J,C5,J,hS,⟨_,_,_,_,_,J,xc,J,(ht J),⟨_,_,_,_,_,J,xb,J,(ht J),J⟩⟩⟩))<|zo J (bX (r:=ck) (ys:=[Lc]) (xs:=[.tmp 8]) qD oo J J J J J ⟨(ht J),aY⟩)<|zo J (cY (y:=(⟨[Lc]⟩:bA)) lq Ng kO (⟨_,_,_,_,_,J,Au,J,(ht J),J⟩))<|aZ (r:=bF) (x:=qO) lq (fun _=>kO _) J fun b2=>aC lq J aw J (ht J) (ht J)<|aU 2 J<|ap<|au<|zo J (bX (r:=bW) (ys:=[(2:Int),(2:Int)]) (xs:=[.const (.int .i64 (2)),.const (.int .i64 (2))]) dr bL J J J J J ⟨hI,hI,aY⟩) ?_;refine bv J<|ap<|au<|zo J (bC lq J J)<|aA J<|zo J (cY (y:=La) eu Hy fF (⟨_,_,_,_,_,J,sP,J,hI,⟨_,_,_,_,_,J,sO,J,hI,⟨_,_,_,_,_,J,sN,J,hI,⟨_,_,_,_,_,J,sM,J,(ht J),J⟩⟩⟩⟩))<|zo J (cY (y:=K9) eu Hy fF (⟨_,_,_,_,_,J,sP,J,hI,⟨_,_,_,_,_,J,sO,J,hI,⟨_,_,_,_,_,J,sN,J,hI,J⟩⟩⟩))<|zo J (bX (r:=aE) (ys:=[La,K9]) (xs:=[.tmp 14,.tmp 15]) mp eu J J J J J ⟨(ht J),(ht J),aY⟩)<|zo J (cY (y:=Pb) io Nf nj (⟨_,_,_,_,_,J,zg,J,hI,⟨_,_,_,_,_,J,zf,J,hI,⟨_,_,_,_,_,J,uL,J,(ht J),J⟩⟩⟩))<|aA J<|zo J (cY (y:=Pa) eu Hy fF (⟨_,_,_,_,_,J,sP,J,hI,⟨_,_,_,_,_,J,sO,J,hI,⟨_,_,_,_,_,J,sN,J,hI,⟨_,_,_,_,_,J,sM,J,(ht J),J⟩⟩⟩⟩))<|zo J (bX (r:=aE) (ys:=[Pa]) (xs:=[.tmp 19]) mp eu J J J J J ⟨(ht J),aY⟩)<|zo J (cY (y:=K5) io Nf nj (⟨_,_,_,_,_,J,zg,J,hI,⟨_,_,_,_,_,J,zf,J,hI,⟨_,_,_,_,_,J,uL,J,(ht J),J⟩⟩⟩))<|zo J (bX (r:=bY) (ys:=[Pb,K5]) (xs:=[.tmp 17,.tmp 21]) lP io J J J J J ⟨(ht J),(ht J),aY⟩)<|zo J (cY (y:=(⟨[Pb,K5]⟩:cZ)) lg LD oQ (⟨_,_,_,_,_,J,FM,J,(ht J),J⟩))<|bM<|aC lq J aw J (ht J) (ht J)<|aU 0 J<|aC lg J aw J (ht J) (ht J)<|aU 1 J<|ap ?_;refine am ?_;cases so h;exact Bg J J ⟨nz lq J J J,nz lg J J J,aY⟩

theorem Nq{R:Bool}(h:q5=some R):bg aP 8 [] (gU R):=by
 refine bg.of Tryz.func8 J J J fun w0 S0=>au<|zo J (fC)<|ap<|au<|bO h fun r q_r h=>zo J (aL Qf (L5 q_r) trivial)<|aA J<|zo J (lA J J)<|zo J (lA J J)<|aZ (r:=bF) (x:=qO) lq (fun _=>kO _) J fun b=>aZ (r:=cb) (x:=uE) lg (fun _=>oQ _) J fun b1=>bM<|aC lq J aw J (ht J) (ht J)<|aU 1 J<|aC lg J aw J (ht J) (ht J)<|aU 2 J<|ap<|au ?_;refine zo J (bC lg J J)<|zo J (bC lq J J)<|bO h fun r1 q_r1 h=>zo J (aL Qg (L7 _ _ q_r1) ⟨(ht J),(ht J),aY⟩)<|aA J<|zo J (lA J J)<|zo J (lA J J)<|zo J (lA J J)<|bv J<|bv J<|bv J<|ap<|au<|zo J (bC lg J J)<|zo J (bC lq J J)<|bO h fun r2 q_r2 h=>zo J (aL OH (HJ _ _ _ q_r2) ⟨(ht J),(ht J),hI,aY⟩)<|aA J<|zo J (lA J J)<|zo J (lA J J)<|bv J<|bv J ?_;refine ap<|au<|zo J (cY (y:=uE) lg LD oQ (J))<|zo J (bC lq J J)<|bO h fun r3 q_r3 h=>zo J (aL OM (HK _ _ q_r3) ⟨(ht J),(ht J),aY⟩)<|aA J<|zo J (lA J J)<|zo J (lA J J)<|zo J (lA J J)<|bv J<|bv J<|bv J<|ap<|au<|zo J (bC lg J J)<|bO h fun r4 q_r4 h=>zo J (aL Mj (DE _ _ q_r4) ⟨(ht J),hI,aY⟩)<|aA J<|zo J (lA J J) ?_;refine zo J (lA J J)<|zo J (lA J J)<|bv J<|bv J<|bv J<|ap<|au<|aA J<|zo J (kc J)<|aA J<|bE J J (fun hg=>cM J)<|bE J J (fun hg=>bG (aJ J hg) hI)<|zo J (kM J J)<|aA J<|bE J J (fun hg=>cM J)<|bE J J (fun hg=>bG (aJ J hg) hI)<|zo J (kM J J)<|aA J<|bE J J (fun hg=>cM J)<|zo J (kM J J)<|aA J<|bE J J (fun hg=>cM J) ?_;refine bE J J (fun hg=>bG (aJ J hg) hI)<|zo J (kM J J)<|aA J<|bE J J (fun hg=>cM J)<|bE J J (fun hg=>bG (aJ J hg) hI)<|zo J (kM J J)<|aA J<|bE J J (fun hg=>cM J)<|bE J J (fun hg=>bS rQ (aJ J hg))<|bE J J (fun hg=>bG (aJ J hg) hI)<|zo J (kM J J)<|aA J<|bO h fun t q_t h=>bE J J (fun hg=>cM J) ?_
 obtain⟨e,h1t,h0t⟩:=og q_t
 have q_eg:=fun hb=>(h1t hb).1
 refine bE J J (fun hg=>cr rQ er J (aJ J hg) hI (q_eg hg))<|bE J J (fun hg=>cB lu J fS J (aJ J hg))<|bE J J (fun hg=>aO bL J J (aJ J hg))<|bE J J (fun hg=>bG (aJ J hg) hI)<|zo J (dm (ht J) (fun hb=>(aJ J hb)) (fun hb=>(h1t hb).2) h0t)<|aA J<|bO h fun t1 q_t1 h=>bE J J (fun hg=>cM J) ?_
 obtain⟨e1,h1t1,h0t1⟩:=og q_t1
 have q_e1g:=fun hb=>(h1t1 hb).1
 refine bE J J (fun hg=>cr rQ er J (aJ J hg) hI (q_e1g hg))<|bE J J (fun hg=>cB nQ J iM J (aJ J hg))<|bE J J (fun hg=>aO bT J J (aJ J hg))<|bE J J (fun hg=>bS dr (aJ J hg))<|bE J J (fun hg=>bG (aJ J hg) hI)<|zo J (dm (ht J) (fun hb=>(aJ J hb)) (fun hb=>(h1t1 hb).2) h0t1)<|bv J<|ap<|am ?_;cases so h;exact aH J J

theorem I9(l:(List bp))(most:Int){R:(List bp)}(h:jq l most=some R):fc aP 33 [fE (ck) l,ce most] false ck 40 R:=by
 refine fc.of Tryz.func33 J J J fun w0 S0=>au<|cm false ck 40<|zo J (ba q6)<|ap<|au<|fu (r:=ck) (ys:=([]:List bp)) (xs:=[]) qD oo J J J J J trivial J fun l1 c=>aA J<|aA J<|zo J (jk qD J)<|aA J<|zo J (lL (ht J) (ht J))<|bO h fun y q_y h=>zo J (jX qD oo J (ht J) (ht J) q_y)<|bO h fun x q_x h=>dk oo J J J J qD J J (ht J) (ht J) q_x fun l2 c1=>bv J<|ap<|am ?_;cases so h;exact gy J J
theorem I8(l:(List aV))(most:Int){R:(List aV)}(h:gH l most=some R):fc aP 34 [fE (bZ) l,ce most] false bZ 42 R:=by
 refine fc.of Tryz.func34 J J J fun w0 S0=>au<|cm false bZ 42<|zo J (ba q6)<|ap<|au<|fu (r:=bZ) (ys:=([]:List aV)) (xs:=[]) qK nY J J J J J trivial J fun l1 c=>aA J<|aA J<|zo J (jk qK J)<|aA J<|zo J (lL (ht J) (ht J))<|bO h fun y q_y h=>zo J (jX qK nY J (ht J) (ht J) q_y)<|bO h fun x q_x h=>dk nY J J J J qK J J (ht J) (ht J) q_x fun l2 c1=>bv J<|ap<|am ?_;cases so h;exact gy J J
theorem L0(l:(List aV))(most:Int){R:(List aV)}(h:gH l most=some R):bg aP 34 [fE (bZ) l,ce most] (fE (bZ) R):=(I8 _ _ h).spec

theorem I7(l:(List Int))(most:Int){R:(List Int)}(h:eF l most=some R):fc aP 35 [lx l,ce most] false bW 3 R:=by
 refine fc.of Tryz.func35 J J J fun w0 S0=>au<|cm false bW 3<|zo J (ba q6)<|ap<|au<|fu (r:=bW) (ys:=mW) (xs:=[]) dr bL J J J J J trivial J fun l1 c=>aA J<|aA J<|zo J (jk dr J)<|aA J<|zo J (lL (ht J) (ht J))<|bO h fun y q_y h=>zo J (jX dr bL J (ht J) (ht J) q_y)<|bO h fun x q_x h=>dk bL J J J J dr J J (ht J) (ht J) q_x fun l2 c1=>bv J<|ap<|am ?_;cases so h;exact gy J J
theorem AV(l:(List Int))(most:Int){R:(List Int)}(h:eF l most=some R):bg aP 35 [lx l,ce most] (lx R):=(I7 _ _ h).spec

theorem EG(c:bA){R:bA}(h:oY c=some R):bg aP 9 [tD bF c] (tD bF R):=by
 refine bg.of Tryz.func9 J J J fun w0 S0=>au<|zo J (ms J)<|aZ (r:=bF) (x:=qO) lq (fun _=>kO _) J fun b=>ap<|au<|zo J (cc pn j3 J J)<|zo J (bC wT J J)<|bO h fun r q_r h=>jb Qe (I9 _ _ q_r) ⟨(ht J),hI,aY⟩ J fun l c1=>zo J (cY (y:=gu (⟨r⟩:bA) (ai l c1 r.length)) lq Ng te (⟨_,_,_,_,_,J,w8,J,(zy (ht J)),J⟩))<|cm false ck 40<|aZ (r:=fL) (x:=gu qO (ai none 0 (([]:List bp).length))) lq te J fun b1=>dV lq J (kl J) J (ht J) (ht J)<|bM<|rN<|ap<|ae<|au ?_;refine zo J (eY 0 pn J J J)<|zo J (dw wT mI (.head _) J (ht J))<|zo J (ee qD (.tail _ (.head _)) (ht J))<|zo J (bj hI)<|ap<|av<|gx (.tail _ (.head _)) fun hN=>bK<|dM<|dM<|kz ?_;refine aM (jd (Z:=fun ls i out=>(r.drop i=ls)∧kW ls i out=some R) (Of:=fun _ i out=>[bx bF 24 b qO,bx fL 24 b1 (gu out (ai l c1 out.Tables.length)),cu ck 40 l c1 out.Tables]) (Gf:=fun _ i out=>[(2,tV (aD b 0)),(3,tV (aD b1 0)),(11,oc l c1 r),(12,je r),(13,ce (i:Int))]) (fun i out h=>?_) (fun e tl ih i out h=>?_) r 0 ({(⟨r⟩:bA)with Tables:=r}:bA) ⟨J,h⟩) (bh J)
 ·obtain⟨hx,h⟩:=h
  refine aq<|au<|zo J (fx J J)<|ap<|ae<|br (ht J) (dp hx)<|bk ?_;refine ac (ac (aG ?_));refine an<|au<|jJ<|kx<|zo rfl (oE (q:=bF) (y:=out) lq J J J J (.tail _ (.tail _ (.head _))) (fun _ _ _ ho h=>ue (iE ho (.head _)) h) (ht J))<|bM<|aC lq J aw J (ht J) (ht J)<|aU 2 J<|ap<|am<|bl<|bl ?_;cases so h;exact fP J lq J J J
 ·obtain⟨hx,h⟩:=h
  refine aq<|au<|zo J (fx J J)<|ap<|ae<|bq (ht J) (dh hx)<|eK<|ae<|av<|au<|aA J<|bO h fun e1 q_e1 h=>zo J (lE qD oo (.tail _ (.tail _ (.head _))) (ht J) (ht J) q_e1 (A4 hx))<|bO h fun e2 q_e2 h=>zo J (dJ (r:=ck) (i:=(i:Int)) (foff:=0) oo J J cH J (.tail _ (.tail _ (.head _))) q_e2 (ht J))<|aZ (r:=ck) (x:=(⟨[],[],[]⟩:bp)) oo (fun _=>wN _) J fun b2=>bv J<|aC oo J aw J (ht J) (ht J)<|aU 5 J<|aK ?_;refine an<|bO h fun r1 q_r1 h=>bO h fun r2 q_r2 h=>bO h fun st q_st h=>?_
  refine nI 15 [tc (tV (aD b1 0)),tc (oc l c1 out.Tables),tc (ce (i:Int)),tc (tV (aD b1 0)),tc (oc l c1 out.Tables),tc (ce (i:Int)),tc (bz (dE bZ) e2.Columns),tc (fE (bZ) e2.Columns),tc (fE (bZ) r1),tc (bz gz e2.Keys),tc (lx e2.Keys),tc (lx r2),tc (tV (iG l ((i:Int).toNat*3+0))),tc (tV (iG l ((i:Int).toNat*3+1))),tc (wW)] [false,false,false,false,false,false,false,false,false,false,false,false,false,false,true] [fun _=>[bx bF 24 b qO,bx fL 24 b1 (gu out (ai l c1 out.Tables.length)),cu ck 40 l c1 out.Tables],fun sg=>[cu ck 40 l c1 st,bx bF 24 b qO,bx fL 24 b1 (gu out (ai l c1 out.Tables.length))]] J mixed J J J J J
   ⟨⟨[⟨3,fun _=>tV (aD b1 0),none⟩],_,0,0,J,⟨(fun _=>J),aY⟩,J,J,J,J,J,fun _ sg _ _=>ah J (eY 0 pn J J J)⟩,
   ⟨⟨[⟨18,fun _=>tV (aD b1 0),some 0⟩],_,0,0,J,⟨(fun _=>J),aY⟩,J,J,J,J,J,oL (fun sg=>ah J (dw wT mI (.tail _ (.head _)) J (ht J)))⟩,
   ⟨⟨[⟨4,fun _=>tD bW (i:Int),none⟩],_,0,0,J,⟨(fun _=>J),aY⟩,J,J,J,J,J,fun _ sg _ _=>ah J (cM J)⟩,
   ⟨⟨[⟨3,fun _=>tV (aD b1 0),none⟩],_,0,1,J,⟨(fun _=>J),aY⟩,J,J,J,J,J,fun _ sg _ _=>ah J (eY 0 pn J J J)⟩,
   ⟨⟨[⟨21,fun _=>tV (aD b1 0),some 3⟩],_,0,1,J,⟨(fun _=>J),aY⟩,J,J,J,J,J,yE (fun sg=>ah J (dw wT mI (.tail _ (.head _)) J (ht J))) (oL (fun sg=>ah J (dw wT mI (.tail _ (.tail _ (.head _))) J (ht J))))⟩,
   ⟨⟨[⟨4,fun _=>tD bW (i:Int),none⟩],_,0,1,J,⟨(fun _=>J),aY⟩,J,J,J,J,J,fun _ sg _ _=>ah J (cM J)⟩,
   ⟨⟨[⟨5,fun _=>bz ck e2,none⟩],_,0,0,J,⟨(fun _=>J),aY⟩,J,J,J,J,J,fun _ sg _ _=>ah J (cc re lV J J)⟩,
   ⟨⟨[⟨24,fun _=>bz (dE bZ) e2.Columns,some 6⟩],_,0,0,J,⟨(fun _=>J),aY⟩,J,J,J,J,J,fun _ sg _ _=>ah J (bC Bx J J)⟩,
   ⟨⟨[⟨25,fun _=>tD (dE bZ) e2.Columns,some 7⟩],_,0,0,J,⟨(fun _=>J),aY⟩,J,J,J,J,J,fun _ sg _ _=>ah J (aL Qd (L0 _ _ q_r1) ⟨(ht J),hI,aY⟩)⟩,
   ⟨⟨[⟨5,fun _=>bz ck e2,none⟩],_,0,0,J,⟨(fun _=>J),aY⟩,J,J,J,J,J,fun _ sg _ _=>ah J (cc xS qd J J)⟩,
   ⟨⟨[⟨27,fun _=>bz pT e2.Keys,some 9⟩],_,0,0,J,⟨(fun _=>J),aY⟩,J,J,J,J,J,fun _ sg _ _=>ah J (bC bT J J)⟩,
   ⟨⟨[⟨28,fun _=>tD pT e2.Keys,some 10⟩],_,0,0,J,⟨(fun _=>J),aY⟩,J,J,J,J,J,fun _ sg _ _=>ah J (aL Kh (AV _ _ q_r2) ⟨(ht J),hI,aY⟩)⟩,
   ⟨⟨[⟨19,fun _=>tV (ai l c1 out.Tables.length),some 1⟩,⟨20,fun _=>tD bW (i:Int),some 2⟩],_,0,0,J,⟨(fun _=>J),(fun _=>J),aY⟩,J,J,J,J,J,oL (fun sg=>ah J (cw qD oo (.tail _ (.tail _ (.head _))) (ht J) (ht J) q_e2))⟩,
   ⟨⟨[⟨30,fun _=>tV (iG l ((i:Int).toNat*3+0)),some 12⟩],_,0,0,J,⟨(fun _=>J),aY⟩,J,J,J,J,J,oL (fun sg=>ah J (eW (o:=(i:Int).toNat*3+0) (n:=(i:Int).toNat*3+1) re J (.tail _ (.tail _ (.head _))) q_e2 (ht J) J))⟩,
   ⟨⟨[⟨31,fun _=>tV (iG l ((i:Int).toNat*3+1)),some 13⟩,⟨26,fun _=>tD (dE bZ) r1,some 8⟩],_,J,⟨(fun _=>J),(fun _=>J),aY⟩,J,J,J,fun sg=>dD J (EffOK.fr2 (DH (r:=ck) (i:=(i:Int)) (foff:=1) Bx J xc J q_e2 (so q_st) (ht J) (ht J)))⟩,
   aY⟩⟩⟩⟩⟩⟩⟩⟩⟩⟩⟩⟩⟩⟩⟩ (fun sg=>?_)
  refine(show RG _ _ _ _ [cu ck 40 l c1 st,bx bF 24 b qO,bx fL 24 b1 (gu out (ai l c1 out.Tables.length))] _ from ?_);refine lH (O' :=[cu ck 40 l c1 st,bx bF 24 b qO,bx fL 24 b1 (gu out (ai l c1 st.length))]) (by rw [fW (so q_st)])<|bO h fun e3 q_e3 h=>zo J (cw qD oo (.head _) (ht J) (ht J) q_e3 ((fW (so q_st)).symm))<|zo J (eW (o:=(i:Int).toNat*3+0) (n:=(i:Int).toNat*3+2) xS J (.head _) q_e3 (ht J) J)<|bO h fun st1 q_st1 h=>jI bT J xb J q_e3 (so q_st1) (ht J) (ht J)<|lH (O' :=[cu ck 40 l c1 st1,bx bF 24 b qO,bx fL 24 b1 (gu out (ai l c1 st1.length))]) (by rw [fW (so q_st1)])<|aK<|al<|an<|ak<|zo rfl (lb (cL hx hN) rfl)<|aA rfl<|aK<|aI<|aI ?_;exact aW (aM (ih (i+1) ({out with Tables:=st1}:bA) ⟨cK hx,h⟩) (bh J))

theorem I6(l:(List aF))(most:Int){R:(List aF)}(h:jr l most=some R):fc aP 36 [fE (aE) l,ce most] false aE 50 R:=by
 refine fc.of Tryz.func36 J J J fun w0 S0=>au<|cm false aE 50<|zo J (ba q6)<|ap<|au<|fu (r:=aE) (ys:=([]:List aF)) (xs:=[]) mp eu J J J J J trivial J fun l1 c=>aA J<|aA J<|zo J (jk mp J)<|aA J<|zo J (lL (ht J) (ht J))<|bO h fun y q_y h=>zo J (jX mp eu J (ht J) (ht J) q_y)<|bO h fun x q_x h=>dk eu J J J J mp J J (ht J) (ht J) q_x fun l2 c1=>bv J<|ap<|am ?_;cases so h;exact gy J J
theorem I5(l:(List gc))(most:Int){R:(List gc)}(h:kJ l most=some R):fc aP 37 [fE (cS) l,ce most] false cS 107 R:=by
 refine fc.of Tryz.func37 J J J fun w0 S0=>au<|cm false cS 107<|zo J (ba q6)<|ap<|au<|fu (r:=cS) (ys:=([]:List gc)) (xs:=[]) mS gL J J J J J trivial J fun l1 c=>aA J<|aA J<|zo J (jk mS J)<|aA J<|zo J (lL (ht J) (ht J))<|bO h fun y q_y h=>zo J (jX mS gL J (ht J) (ht J) q_y)<|bO h fun x q_x h=>dk gL J J J J mS J J (ht J) (ht J) q_x fun l2 c1=>bv J<|ap<|am ?_;cases so h;exact gy J J
theorem I4(l:(List bo))(most:Int){R:(List bo)}(h:jZ l most=some R):fc aP 38 [fE (be) l,ce most] false be 45 R:=by
 refine fc.of Tryz.func38 J J J fun w0 S0=>au<|cm false be 45<|zo J (ba q6)<|ap<|au<|fu (r:=be) (ys:=Im) (xs:=[]) qL gn J J J J J trivial J fun l1 c=>aA J<|aA J<|zo J (jk qL J)<|aA J<|zo J (lL (ht J) (ht J))<|bO h fun y q_y h=>zo J (jX qL gn J (ht J) (ht J) q_y)<|bO h fun x q_x h=>dk gn J J J J qL J J (ht J) (ht J) q_x fun l2 c1=>bv J<|ap<|am ?_;cases so h;exact gy J J
theorem I3(l:(List iC))(most:Int){R:(List iC)}(h:iW l most=some R):fc aP 39 [fE (fV) l,ce most] false fV 111 R:=by
 refine fc.of Tryz.func39 J J J fun w0 S0=>au<|cm false fV 111<|zo J (ba q6)<|ap<|au<|fu (r:=fV) (ys:=([]:List iC)) (xs:=[]) s8 th J J J J J trivial J fun l1 c=>aA J<|aA J<|zo J (jk s8 J)<|aA J<|zo J (lL (ht J) (ht J))<|bO h fun y q_y h=>zo J (jX s8 th J (ht J) (ht J) q_y)<|bO h fun x q_x h=>dk th J J J J s8 J J (ht J) (ht J) q_x fun l2 c1=>bv J<|ap<|am ?_;cases so h;exact gy J J
theorem LZ(l:(List iC))(most:Int){R:(List iC)}(h:iW l most=some R):bg aP 39 [fE (fV) l,ce most] (fE (fV) R):=(I3 _ _ h).spec

theorem I0(l:(List bt))(most:Int){R:(List bt)}(h:js l most=some R):fc aP 72 [fE (aR) l,ce most] false aR 149 R:=by
 refine fc.of Tryz.func72 J J J fun w0 S0=>au<|cm false aR 149<|zo J (ba q6)<|ap<|au<|fu (r:=aR) (ys:=GT) (xs:=[]) ju dB J J J J J trivial J fun l1 c=>aA J<|aA J<|zo J (jk ju J)<|aA J<|zo J (lL (ht J) (ht J))<|bO h fun y q_y h=>zo J (jX ju dB J (ht J) (ht J) q_y)<|bO h fun x q_x h=>dk dB J J J J ju J J (ht J) (ht J) q_x fun l2 c1=>bv J<|ap<|am ?_;cases so h;exact gy J J
theorem DD(e:bo){R:bo}(h:mh e=some R):bg aP 40 [tD be e] (tD be R):=by
 refine bg.of Tryz.func40 J J J fun w0 S0=>au<|zo J (ms J)<|aZ (r:=be) (x:=uF) gn (fun _=>pS _) J fun b=>ap<|au<|zo J (cc fB dc J J)<|zo J (bC mt J J)<|bO h fun r q_r h=>jb PR (I0 _ _ q_r) ⟨(ht J),hI,aY⟩ J fun l c=>zo J (cY (y:=iL (⟨r⟩:bo) (ai l c r.length)) gn Nb ru (⟨_,_,_,_,_,J,vo,J,(zy (ht J)),J⟩))<|cm false aR 149<|aZ (r:=iH) (x:=iL uF (ai none 0 (GT.length))) gn ru J fun b1=>dV gn J (kl J) J (ht J) (ht J)<|bM<|rN<|ap<|ae<|au ?_;refine zo J (eY 0 fB J J J)<|zo J (dw mt o4 (.head _) J (ht J))<|zo J (ee ju (.tail _ (.head _)) (ht J))<|zo J (bj hI)<|ap<|av<|gx (.tail _ (.head _)) fun hN=>bK<|dM<|dM<|kz ?_;refine aM (jd (Z:=fun ls i out=>(r.drop i=ls)∧kX ls i out=some R) (Of:=fun _ i out=>[bx be 45 b uF,bx iH 45 b1 (iL out (ai l c out.Nodes.length)),cu aR 149 l c out.Nodes]) (Gf:=fun _ i out=>[(2,tV (aD b 0)),(3,tV (aD b1 0)),(12,je r),(13,ce (i:Int))]) (fun i out h=>?_) (fun e1 tl ih i out h=>?_) r 0 ({(⟨r⟩:bo)with Nodes:=r}:bo) ⟨J,h⟩) (bh J)
 ·obtain⟨hx,h⟩:=h
  refine aq<|au<|zo J (fx J J)<|ap<|ae<|br (ht J) (dp hx)<|bk ?_;refine ac (ac (aG ?_));refine an<|au<|jJ<|kx<|zo rfl (oE (q:=be) (y:=out) gn J J J J (.tail _ (.tail _ (.head _))) (fun _ _ _ ho h=>rl (iE ho (.head _)) h) (ht J))<|bM<|aC gn J aw J (ht J) (ht J)<|aU 2 J<|ap<|am<|bl<|bl ?_;cases so h;exact fP J gn J J J
 ·obtain⟨hx,h⟩:=h
  refine aq<|au<|zo J (fx J J)<|ap<|ae<|bq (ht J) (dh hx)<|eK<|ae<|av<|au<|aA J<|bv J<|ap<|au<|zo J (eY 0 fB J J J)<|zo J (dw mt o4 (.tail _ (.head _)) J (ht J))<|aA J<|bO h fun e2 q_e2 h=>?_;refine zo J (cw ju dB (.tail _ (.tail _ (.head _))) (ht J) (ht J) q_e2)<|zo J (eW (o:=(i:Int).toNat*8+0) (n:=(i:Int).toNat*8+4) tY J (.tail _ (.tail _ (.head _))) q_e2 (ht J) J)<|zo J (eW (o:=(i:Int).toNat*8+4) (n:=(i:Int).toNat*8+7) Dz J (.tail _ (.tail _ (.head _))) q_e2 (ht J) J)<|bv J<|ap<|bO h fun y q_y h=>?_
  refine nJ 11 (ts:=[tV (iG l ((i:Int).toNat*8+7)),tV (iG l ((i:Int).toNat*8+7)),tV (iG l ((i:Int).toNat*8+7)),tD rS e2.Value.S,tV (iG l ((i:Int).toNat*8+7)),tV (iG l ((i:Int).toNat*8+7)),tD rS e2.Value.S,je e2.Value.S,ce (min (e2.Value.S.length:Int) (41:Int)),tD rS y,tV (iG l ((i:Int).toNat*8+7))]) mixed J J J
   ⟨ij 5 J J J (cM J),
   ⟨ij 5 J J J (cM J),
   ⟨cO 23 1 J J J (n5 (.tail _ (.tail _ (.head _))) q_e2 (ht J)),
   ⟨cO 24 2 J J J (dJ (r:=aR) (i:=(i:Int)) (foff:=7) C0 J J (eD lW qb) J (.tail _ (.tail _ (.head _))) q_e2 (ht J)),
   ⟨ij 5 J J J (cM J),
   ⟨cO 26 4 J J J (n5 (.tail _ (.tail _ (.head _))) q_e2 (ht J)),
   ⟨cO 27 5 J J J (dJ (r:=aR) (i:=(i:Int)) (foff:=7) C0 J J (eD lW qb) J (.tail _ (.tail _ (.head _))) q_e2 (ht J)),
   ⟨cO 28 6 J J J (AF jQ (ht J)),
   ⟨cO 29 7 J J J (lL (ht J) hI),
   ⟨fG 25 3 30 8 J J J J (FV jQ (ht J) (ht J) q_y),
   ⟨cO 22 0 J J J (n5 (.tail _ (.tail _ (.head _))) q_e2 (ht J)),
   aY⟩⟩⟩⟩⟩⟩⟩⟩⟩⟩⟩ ?_
  refine jJ<|bO h fun st q_st h=>jI C0 J (FD lW C7 w9) J q_e2 (so q_st) (ht J) (ht J)<|ig (fW (so q_st)) 17 J<|lH (O' :=[cu aR 149 l c st,bx be 45 b uF,bx iH 45 b1 (iL out (ai l c st.length))]) (by rw [fW (so q_st)])<|aK<|al<|an<|ak<|zo rfl (lb (cL hx hN) rfl)<|aA rfl<|aK<|aI<|aI ?_;exact aW (aM (ih (i+1) ({out with Nodes:=st}:bo) ⟨cK hx,h⟩) (bh J))

theorem JT(l:(List aF)){R:(List aF)}(h:nF l=some R):fc aP 10 [fE (aE) l] false aE 50 R:=by
 refine fc.of Tryz.func10 J J J fun w0 S0=>au<|cm false aE 50<|zo J (ba q6)<|ap<|au<|aA J<|bO h fun r q_r h=>jb Qc (I6 _ _ q_r) ⟨(ht J),hI,aY⟩ J fun l1 c=>bv J<|ap<|ae<|au<|aA J<|zo J (ee mp (.head _) (ht J))<|zo J (bj hI)<|ap<|av ?_;refine gx (.head _) fun hN=>bK<|dM<|pc ?_;refine aM (E9 (Z:=fun k i out=>(r.length-i=k)∧gG k i out=some R) (Of:=fun _ i out=>[cu aE 50 l1 c out]) (Gf:=fun _ i out=>[(3,oc l1 c out),(12,oc l1 c r),(13,je r),(14,ce (i:Int))]) (fun i out h=>?_) (fun k1 ih i out h=>?_) r.length 0 r ⟨J,h⟩) (bh J)
 ·obtain⟨hx,h⟩:=h
  refine aq<|au<|zo J (fx J J)<|ap<|ae<|br (ht J) (Lu hx)<|bk ?_;refine ac (ac (aG ?_));refine an<|au<|aA rfl<|bv rfl<|ap<|am ?_;cases so h;exact gy J J
 ·obtain⟨hx,h⟩:=h
  refine aq<|au<|zo J (fx J J)<|ap<|ae<|bq (ht J) (Lt hx)<|eK<|ae<|av<|au<|aA J<|bO h fun e1 q_e1 h=>zo J (lE mp eu (.head _) (ht J) (ht J) q_e1 (M1 hx))<|bO h fun e2 q_e2 h=>zo J (dJ (r:=aE) (i:=(i:Int)) (foff:=0) eu J J cH J (.head _) q_e2 (ht J))<|cm false cS 107<|cm false be 45<|aZ (r:=eH) (x:=iU Bh (ai none 0 (([]:List gc).length)) (ai none 0 (Im.length))) eu Ag J fun b=>bv J<|dV (r' :=aE) (x' :=e2) eu J (kl J) J (ht J) (ht J) ?_;refine(show RG _ _ _ _ [bx aE 50 b e2,cu be 45 none 0 Im,cu cS 107 none 0 ([]:List gc),cu aE 50 l1 c out] _ from ?_);refine bM<|rN<|bM<|rN<|ap<|ae<|bO h fun r1 q_r1 h=>bO h fun r2 q_r2 h=>bO h fun r3 q_r3 h=>bO h fun r4 q_r4 h=>bO h fun r5 q_r5 h=>?_
  refine nI 16 [tc (tV (aD b 4)),tc (lx e2.Kinds),tc (lx r1),tc (tV (aD b 7)),tc (lx e2.Keys),tc (lx r2),tc (tV (aD b 8)),tc (fE (cS) e2.Aggs),([8],fun s=>tV (ai ((s.getD 0 rx).h 0).1 ((s.getD 0 rx).h 0).2 r3.length)),tc (tV (aD b 9)),tc (fE (be) e2.Items),([11],fun s=>tV (ai ((s.getD 0 rx).h 0).1 ((s.getD 0 rx).h 0).2 r4.length)),tc (tV (aD b 10)),tc (fE (fV) e2.Order),tc (fE (fV) r5),tc (tV (aD b 4))] [false,false,false,false,false,false,false,false,true,false,false,true,false,false,false,false] [fun _=>[bx aE 50 b e2,cu aE 50 l1 c out],fun sg=>[cu cS 107 ((sg 8).h 0).1 ((sg 8).h 0).2 r3,bx aE 50 b e2,cu aE 50 l1 c out],fun sg=>[cu be 45 ((sg 11).h 0).1 ((sg 11).h 0).2 r4,cu cS 107 ((sg 8).h 0).1 ((sg 8).h 0).2 r3,bx aE 50 b e2,cu aE 50 l1 c out]] J mixed J J J J J
   ⟨⟨[⟨5,fun _=>tV (aD b 0),none⟩],_,0,0,J,⟨(fun _=>J),aY⟩,J,J,J,J,J,fun _ sg _ _=>ah J (eY 4 nb J J J)⟩,
   ⟨⟨[⟨19,fun _=>tV (aD b 4),some 0⟩],_,0,0,J,⟨(fun _=>J),aY⟩,J,J,J,J,J,oL (fun sg=>ah J (aT bT J J gQ (.head _) (ht J)))⟩,
   ⟨⟨[⟨20,fun _=>tD pT e2.Kinds,some 1⟩],_,0,0,J,⟨(fun _=>J),aY⟩,J,J,J,J,J,fun _ sg _ _=>ah J (aL Kh (AV _ _ q_r1) ⟨(ht J),hI,aY⟩)⟩,
   ⟨⟨[⟨5,fun _=>tV (aD b 0),none⟩],_,0,0,J,⟨(fun _=>J),aY⟩,J,J,J,J,J,fun _ sg _ _=>ah J (eY 7 lv J J J)⟩,
   ⟨⟨[⟨22,fun _=>tV (aD b 7),some 3⟩],_,0,0,J,⟨(fun _=>J),aY⟩,J,J,J,J,J,oL (fun sg=>ah J (aT bT J J fh (.head _) (ht J)))⟩,
   ⟨⟨[⟨23,fun _=>tD pT e2.Keys,some 4⟩],_,0,0,J,⟨(fun _=>J),aY⟩,J,J,J,J,J,fun _ sg _ _=>ah J (aL Kh (AV _ _ q_r2) ⟨(ht J),hI,aY⟩)⟩,
   ⟨⟨[⟨5,fun _=>tV (aD b 0),none⟩],_,0,0,J,⟨(fun _=>J),aY⟩,J,J,J,J,J,fun _ sg _ _=>ah J (eY 8 la J J J)⟩,
   ⟨⟨[⟨25,fun _=>tV (aD b 8),some 6⟩],_,0,0,J,⟨(fun _=>J),aY⟩,J,J,J,J,J,oL (fun sg=>ah J (aT qQ J J fM (.head _) (ht J)))⟩,
   ⟨⟨[⟨26,fun _=>tD (dE cS) e2.Aggs,some 7⟩],_,J,⟨(fun _=>J),aY⟩,J,J,J,fun sg=>dD J (zQ (xs:=[.tmp 26,.const (.int .i64 (14))]) (ts:=[tD (dE cS) e2.Aggs,tD bW (14:Int)]) Qb (I5 _ _ q_r3) ⟨(ht J),hI,aY⟩)⟩,
   ⟨⟨[⟨5,fun _=>tV (aD b 0),none⟩],_,0,1,J,⟨(fun _=>J),aY⟩,J,J,J,J,J,fun _ sg _ _=>ah J (eY 9 sX J J J)⟩,
   ⟨⟨[⟨28,fun _=>tV (aD b 9),some 9⟩],_,0,1,J,⟨(fun _=>J),aY⟩,J,J,J,J,J,yE (fun sg=>ah J (aT Bw J J oH (.head _) (ht J))) (oL (fun sg=>ah J (aT Bw J J oH (.tail _ (.head _)) (ht J))))⟩,
   ⟨⟨[⟨29,fun _=>tD (dE be) e2.Items,some 10⟩],_,J,⟨(fun _=>J),aY⟩,J,J,J,fun sg=>dD J (zQ (xs:=[.tmp 29,.const (.int .i64 (17))]) (ts:=[tD (dE be) e2.Items,tD bW (17:Int)]) Qa (I4 _ _ q_r4) ⟨(ht J),hI,aY⟩)⟩,
   ⟨⟨[⟨5,fun _=>tV (aD b 0),none⟩],_,0,2,J,⟨(fun _=>J),aY⟩,J,J,J,J,J,fun _ sg _ _=>ah J (eY 10 qg J J J)⟩,
   ⟨⟨[⟨31,fun _=>tV (aD b 10),some 12⟩],_,0,2,J,⟨(fun _=>J),aY⟩,J,J,J,J,J,yE (fun sg=>ah J (aT Ap J J jN (.head _) (ht J))) (yE (fun sg=>ah J (aT Ap J J jN (.tail _ (.head _)) (ht J))) (oL (fun sg=>ah J (aT Ap J J jN (.tail _ (.tail _ (.head _))) (ht J)))))⟩,
   ⟨⟨[⟨32,fun _=>tD (dE fV) e2.Order,some 13⟩],_,2,2,J,⟨(fun _=>J),aY⟩,J,J,J,J,J,fun _ sg _ _=>ah J (aL PZ (LZ _ _ q_r5) ⟨(ht J),hI,aY⟩)⟩,
   ⟨⟨[⟨5,fun _=>tV (aD b 0),none⟩],_,0,2,J,⟨(fun _=>J),aY⟩,J,J,J,J,J,fun _ sg _ _=>ah J (eY 4 nb J J J)⟩,
   aY⟩⟩⟩⟩⟩⟩⟩⟩⟩⟩⟩⟩⟩⟩⟩⟩ (fun sg=>?_)
  refine(show RG _ _ _ _ [cu be 45 ((sg 11).h 0).1 ((sg 11).h 0).2 r4,cu cS 107 ((sg 8).h 0).1 ((sg 8).h 0).2 r3,bx aE 50 b e2,cu aE 50 l1 c out] _ from ?_);refine jJ<|aC bT J sM J (ht J) (ht J)<|zo J (eY 7 lv J J J)<|aC bT J C6 J (ht J) (ht J)<|zo J (eY 8 la J J J)<|dV qQ J (sH _ _) J (ht J) (zy (ht J))<|zo J (eY 9 sX J J J)<|dV Bw J (pW _ _ _) J (ht J) (zy (ht J))<|zo J (eY 10 qg J J J)<|aC Ap J we J (ht J) (ht J)<|ap<|ae<|au<|zo J (eY 8 la J J J)<|zo J (dw qQ q9 (.head _) J (ht J))<|zo J (ee mS (.tail _ (.tail _ (.head _))) (ht J))<|zo J (bj hI)<|ap<|av<|gx (.tail _ (.tail _ (.head _))) fun hN1=>bK ?_;refine dM<|kz<|kz<|ep ?_;refine aM (jd (Z:=fun ls i1 n=>(r3.drop i1=ls)∧jD (gG k1) i out ls i1 n=some R) (Of:=fun _ i1 n=>[cu aE 50 l1 c out,bx eH 50 b (iU n (ai ((sg 8).h 0).1 ((sg 8).h 0).2 n.Aggs.length) (ai ((sg 11).h 0).1 ((sg 11).h 0).2 n.Items.length)),cu cS 107 ((sg 8).h 0).1 ((sg 8).h 0).2 n.Aggs,cu be 45 ((sg 11).h 0).1 ((sg 11).h 0).2 n.Items]) (Gf:=fun _ i1 n=>[(3,oc l1 c out),(4,ce (i:Int)),(5,tV (aD b 0)),(12,oc l1 c r),(13,je r),(14,ce (i:Int)),(40,tV (ai ((sg 8).h 0).1 ((sg 8).h 0).2 r3.length)),(41,je r3),(42,ce (i1:Int))]) (fun i1 n h=>?_) (fun e3 tl ih1 i1 n h=>?_) r3 0 ({({({(aF.mk e2.Op e2.A e2.B e2.Table r1 e2.Left e2.Cond r2 e2.Aggs e2.Items e2.Order e2.Limit)with Order:=r5}:aF)with Aggs:=r3}:aF)with Items:=r4}:aF) ⟨J,h⟩) (bh J)
  ·obtain⟨hx1,h⟩:=h
   refine aq<|au<|zo J (fx J J)<|ap<|ae<|br (ht J) (dp hx1)<|bk ?_;refine ac (ac (aG ?_));refine an<|ae<|au<|zo rfl (eY 9 sX rfl rfl rfl)<|zo rfl (dw Bw q8 (.tail _ (.head _)) rfl (ht rfl))<|zo rfl (ee qL (.tail _ (.tail _ (.tail _ (.head _)))) (ht rfl))<|zo rfl (bj hI)<|ap<|av<|gx (.tail _ (.tail _ (.tail _ (.head _)))) fun hN2=>bK ?_;refine aM (jd (Z:=fun ls1 i2 n1=>(n.Items.drop i2=ls1)∧jC (gG k1) i out ls1 i2 n1=some R) (Of:=fun _ i2 n1=>[cu aE 50 l1 c out,bx eH 50 b (iU n1 (ai ((sg 8).h 0).1 ((sg 8).h 0).2 n1.Aggs.length) (ai ((sg 11).h 0).1 ((sg 11).h 0).2 n1.Items.length)),cu cS 107 ((sg 8).h 0).1 ((sg 8).h 0).2 n1.Aggs,cu be 45 ((sg 11).h 0).1 ((sg 11).h 0).2 n1.Items]) (Gf:=fun _ i2 n1=>[(3,oc l1 c out),(4,ce (i:Int)),(5,tV (aD b 0)),(12,oc l1 c r),(13,je r),(14,ce (i:Int)),(57,tV (ai ((sg 11).h 0).1 ((sg 11).h 0).2 n.Items.length)),(58,je n.Items),(59,ce (i2:Int))]) (fun i2 n1 h=>?_) (fun e4 tl1 ih2 i2 n1 h=>?_) n.Items 0 n ⟨J,h⟩) (bh J)
   ·obtain⟨hx2,h⟩:=h
    refine aq<|au<|zo J (fx J J)<|ap<|ae<|br (ht J) (dp hx2)<|bk ?_;refine ac (ac (aG ?_));refine an<|au<|zo rfl (eY 6 sY rfl rfl rfl)<|zo rfl (aT gn rfl rfl xN (.tail _ (.head _)) (ht rfl))<|bO h fun r6 q_r6 h=>zo J (aL Mi (DD _ q_r6) ⟨(ht J),aY⟩)<|zo J (eY 6 sY J J J)<|bM<|aC gn J w7 J (ht J) (ht J)<|ap<|ak<|aA J<|aA J<|jJ<|kx<|eJ<|kx<|zo J (oE (q:=aE) (y:=({({({n1 with Cond:=r6}:aF)with Aggs:=n1.Aggs}:aF)with Items:=n1.Items}:aF)) eu J J J J (.tail _ (.tail _ (.head _))) (fun _ _ _ ho h=>ud (iE ho (.tail _ (.head _))) (iE ho (.head _)) h) (ht J))<|zo J (cw mp eu (.tail _ (.tail _ (.tail _ (.head _)))) (ht J) (ht J) q_e2)<|eJ<|bO h fun st q_st h=>jI eu J aw J q_e2 (so q_st) (ht J) (ht J) ?_;refine ig (fW (so q_st)) 3 J<|ig (fW (so q_st)) 75 J<|aK<|al<|an<|ak<|zo rfl (tG (IS hx (Lv hN)) (ht rfl) hI)<|aA rfl<|aK<|bf<|bl<|bf<|bl<|bf<|bl ?_;exact aW (aM (ih (i+1) st ⟨IR hx,h⟩) (bh J))
   ·obtain⟨hx2,h⟩:=h
    refine aq<|au<|zo J (fx J J)<|ap<|ae<|bq (ht J) (dh hx2)<|eK<|ae<|av<|au<|aA J<|bO h fun e5 q_e5 h=>zo J (lE qL gn (.tail _ (.tail _ (.tail _ (.head _)))) (ht J) (ht J) q_e5 (A4 hx2))<|bO h fun e6 q_e6 h=>zo J (dJ (r:=be) (i:=(i2:Int)) (foff:=0) gn J J cH J (.tail _ (.tail _ (.tail _ (.head _)))) q_e6 (ht J))<|aZ (r:=be) (x:=uF) gn (fun _=>pS _) J fun b1=>bv J<|aC gn J aw J (ht J) (ht J)<|aU 9 J<|aK ?_;refine an<|bO h fun r7 q_r7 h=>?_
    refine nJ 6 (ts:=[tV (aD b 9),tV (ai ((sg 11).h 0).1 ((sg 11).h 0).2 n1.Items.length),ce (i2:Int),tD be e6,tD be r7,tV (iG ((sg 11).h 0).1 ((i2:Int).toNat*1+0))]) mixed J J J
     ⟨ij 5 J J J (eY 9 sX J J J),
     ⟨cO 64 0 J J J (dw Bw q8 (.tail _ (.head _)) J (ht J)),
     ⟨ij 8 J J J (cM J),
     ⟨ij 9 J J J (bC gn J J),
     ⟨cO 67 3 J J J (aL Mi (DD _ q_r7) ⟨(ht J),aY⟩),
     ⟨fG 65 1 66 2 J J J J (cw qL gn (.tail _ (.tail _ (.tail _ (.head _)))) (ht J) (ht J) q_e6),
     aY⟩⟩⟩⟩⟩⟩ ?_
    refine eJ<|bO h fun st1 q_st1 h=>jI gn J aw J q_e6 (so q_st1) (ht J) (ht J)<|ig (fW (so q_st1)) 65 J<|lH (O' :=[cu be 45 ((sg 11).h 0).1 ((sg 11).h 0).2 st1,cu aE 50 l1 c out,bx eH 50 b (iU n1 (ai ((sg 8).h 0).1 ((sg 8).h 0).2 n1.Aggs.length) (ai ((sg 11).h 0).1 ((sg 11).h 0).2 st1.length)),cu cS 107 ((sg 8).h 0).1 ((sg 8).h 0).2 n1.Aggs]) (by rw [fW (so q_st1)])<|aK<|al<|an<|ak<|zo rfl (lb (cL hx2 hN2) rfl)<|aA rfl<|aK<|bn<|bn<|bn ?_;exact aW (aM (ih2 (i2+1) ({n1 with Items:=st1}:aF) ⟨cK hx2,h⟩) (bh J))
  ·obtain⟨hx1,h⟩:=h
   refine aq<|au<|zo J (fx J J)<|ap<|ae<|bq (ht J) (dh hx1)<|eK<|ae<|av<|au<|aA J<|bO h fun e7 q_e7 h=>zo J (lE mS gL (.tail _ (.tail _ (.head _))) (ht J) (ht J) q_e7 (A4 hx1))<|bO h fun e8 q_e8 h=>zo J (dJ (r:=cS) (i:=(i1:Int)) (foff:=0) gL J J cH J (.tail _ (.tail _ (.head _))) q_e8 (ht J))<|aZ (r:=cS) (x:=CV) gL (fun _=>sC _) J fun b2=>bv J<|aC gL J aw J (ht J) (ht J)<|aU 7 J<|aK ?_;refine an<|bO h fun r8 q_r8 h=>?_
   refine nJ 8 (ts:=[tV (aD b 8),tV (ai ((sg 8).h 0).1 ((sg 8).h 0).2 n.Aggs.length),ce (i1:Int),bz be e8.Arg,tD be e8.Arg,tD be r8,tV (iG ((sg 8).h 0).1 ((i1:Int).toNat*2+0)),tV (iG ((sg 8).h 0).1 ((i1:Int).toNat*2+1))]) mixed J J J
    ⟨ij 5 J J J (eY 8 la J J J),
    ⟨cO 47 0 J J J (dw qQ q9 (.tail _ (.head _)) J (ht J)),
    ⟨ij 6 J J J (cM J),
    ⟨ij 7 J J J (cc qi pG J J),
    ⟨cO 50 3 J J J (bC gn J J),
    ⟨cO 51 4 J J J (aL Mi (DD _ q_r8) ⟨(ht J),aY⟩),
    ⟨fG 48 1 49 2 J J J J (cw mS gL (.tail _ (.tail _ (.head _))) (ht J) (ht J) q_e8),
    ⟨cO 53 6 J J J (eW (o:=(i1:Int).toNat*2+0) (n:=(i1:Int).toNat*2+1) qi J (.tail _ (.tail _ (.head _))) q_e8 (ht J) J),
    aY⟩⟩⟩⟩⟩⟩⟩⟩ ?_
   refine jJ<|bO h fun st2 q_st2 h=>jI gn J Ha J q_e8 (so q_st2) (ht J) (ht J)<|ig (fW (so q_st2)) 48 J<|lH (O' :=[cu cS 107 ((sg 8).h 0).1 ((sg 8).h 0).2 st2,cu aE 50 l1 c out,bx eH 50 b (iU n (ai ((sg 8).h 0).1 ((sg 8).h 0).2 st2.length) (ai ((sg 11).h 0).1 ((sg 11).h 0).2 n.Items.length)),cu be 45 ((sg 11).h 0).1 ((sg 11).h 0).2 n.Items]) (by rw [fW (so q_st2)])<|aK<|al<|an<|ak<|zo rfl (lb (cL hx1 hN1) rfl)<|aA rfl<|aK<|bn<|bf<|bn<|bn ?_;exact aW (aM (ih1 (i1+1) ({n with Aggs:=st2}:aF) ⟨cK hx1,h⟩) (bh J))
theorem L9(l:(List aF)){R:(List aF)}(h:nF l=some R):bg aP 10 [fE (aE) l] (fE (aE) R):=(JT _ h).spec

end Go.Proofs.YtmogpgcfognefaaGreatDoor

