/- cF of this claim: P10. -/
import Derived.Test.YtmogpgcfognefaaGreatDoorNbT
import Derived.Test.YtmogpgcfognefaaGreatDoorNbP9
set_option linter.all false
namespace Go.Proofs.YtmogpgcfognefaaGreatDoor
open Go
set_option maxRecDepth 100000

theorem Hn(q:eM)(c:bz)(frag:Int){R:(List bp)×Int}(h:lP q c frag=some R):bg aP 13 [tD dk q,tD ck c,cd frag] (tT [fX (bN) R.1,cd R.2]):=by
 refine bg.of Tryz.func13 J J J fun w0 S0=>aq<|zo J (mp J)<|zo J (mp J)<|zo J (aZ (show ay _ _ _ (fX (bN) ([]))from uR))<|zo J (fg)<|ap<|aq<|zo J (bE nR J J)<|zo J (bE lL J J)<|bP h fun r q_r h=>zo J (aO LV (Dn _ _ q_r) ⟨(ht J),(ht J),be⟩)<|aA J<|zo J (lv J J)<|zo J (lv J J)<|zo J (lv J J)<|zo J (lv J J)<|bu J<|bu J<|bu J<|bu J ?_;refine ap<|ae<|aq<|aA J<|zo J (s3 J)<|ap<|dQ h J (fun h=>?_) (fun h=>?_)
 ·refine aq<|aA J<|zo J (aZ (show ay _ _ _ (fX (bN) ([]))from uR))<|bu J<|ap<|am<|aa ?_;cases so h;exact fW J J J
 ·refine eK<|ae<|aq<|aA J<|zo J (fH (ht J) hI)<|aA J<|cD J J (fun hg=>cN J)<|cD J J (fun hg=>bZ lT gc J J)<|cD J J (fun hg=>aL sH J J (aI J hg))<|cD J J (fun hg=>bI o9 (aI J hg))<|cD J J (fun hg=>ev (aI J hg) (aI J hg))<|zo J (pn J J)<|ap<|dQ h J (fun h=>?_) (fun h=>?_)
  ·refine aq<|zo J (aZ (show ay _ _ _ (fX (bN) ([]))from uR))<|zo J (fg)<|ap<|am<|aa ?_;cases so h;exact fW J J J
  ·refine eK<|aq<|aA J<|aA J<|bP h fun r1 q_r1 h=>jb No (Et _ _ q_r1) ⟨(ht J),(ht J),be⟩ J fun l c1=>bu J<|zo J (fg)<|ap<|am<|ii<|jK 6 J<|jK 34 J<|rR 6 J<|bw ?_;cases so h;exact fW J J J

theorem LK{R:bz×eM}(h:vq=some R):bg aP 32 [] (tT [tD ck R.1,tD dk R.2]):=by
 refine bg.of Tryz.func32 J J J fun w0 S0=>aq<|aX (r:=ck) (x:=vL) lL (fun _=>lK _) J fun b=>aX (r:=dk) (x:=H1) nR (fun _=>oL _) J fun b1=>ap<|aq<|zo J (cJ (y:=KH) mQ MR n7 (⟨_,_,_,_,_,J,vh,J,hS,⟨_,_,_,_,_,J,vg,J,hI,J⟩⟩))<|zo J (cJ (y:=KI) mQ MR n7 (⟨_,_,_,_,_,J,vh,J,hS,⟨_,_,_,_,_,J,vg,J,hI,J⟩⟩))<|zo J (bF (r:=bR) (ys:=[KH,KI]) (xs:=[.tmp 4,.tmp 5]) pN mQ J J J J J ⟨(ht J),(ht J),be⟩)<|zo J (bF (r:=bU) (ys:=[(0:Int)]) (xs:=[.const (.int .i64 (0))]) dp bJ J J J J J ⟨hI,be⟩)<|zo J (cJ (y:=KP) nQ O6 wx (⟨_,_,_,_,_,J,CP,J,hS,⟨_,_,_,_,_,J,wN,J,(ht J),⟨_,_,_,_,_,J,wM,J,(ht J),J⟩⟩⟩))<|zo J (bF (r:=cg) (ys:=[KP]) (xs:=[.tmp 8]) pq nQ J J J J J ⟨(ht J),be⟩)<|zo J (cJ (y:=(⟨[KP]⟩:bz)) lL MS lK (⟨_,_,_,_,_,J,z8,J,(ht J),J⟩))<|aX (r:=ck) (x:=vL) lL (fun _=>lK _) J fun b2=>aC lL J ax J (ht J) (ht J)<|aT 2 J<|ap<|aq<|zo J (bF (r:=bU) (ys:=[(2:Int),(2:Int)]) (xs:=[.const (.int .i64 (2)),.const (.int .i64 (2))]) dp bJ J J J J J ⟨hI,hI,be⟩) ?_;refine bu J<|ap<|aq<|zo J (bE lL J J)<|aA J<|zo J (cJ (y:=KO) d3 FS fh (⟨_,_,_,_,_,J,pX,J,hI,⟨_,_,_,_,_,J,pW,J,hI,⟨_,_,_,_,_,J,pV,J,hI,⟨_,_,_,_,_,J,pU,J,(ht J),J⟩⟩⟩⟩))<|zo J (cJ (y:=KN) d3 FS fh (⟨_,_,_,_,_,J,pX,J,hI,⟨_,_,_,_,_,J,pW,J,hI,⟨_,_,_,_,_,J,pV,J,hI,J⟩⟩⟩))<|zo J (bF (r:=aE) (ys:=[KO,KN]) (xs:=[.tmp 14,.tmp 15]) la d3 J J J J J ⟨(ht J),(ht J),be⟩)<|zo J (cJ (y:=ON) je ID lD (⟨_,_,_,_,_,J,rA,J,hI,⟨_,_,_,_,_,J,rz,J,hI,⟨_,_,_,_,_,J,rC,J,(ht J),J⟩⟩⟩))<|aA J<|zo J (cJ (y:=OM) d3 FS fh (⟨_,_,_,_,_,J,pX,J,hI,⟨_,_,_,_,_,J,pW,J,hI,⟨_,_,_,_,_,J,pV,J,hI,⟨_,_,_,_,_,J,pU,J,(ht J),J⟩⟩⟩⟩))<|zo J (bF (r:=aE) (ys:=[OM]) (xs:=[.tmp 19]) la d3 J J J J J ⟨(ht J),be⟩)<|zo J (cJ (y:=KJ) je ID lD (⟨_,_,_,_,_,J,rA,J,hI,⟨_,_,_,_,_,J,rz,J,hI,⟨_,_,_,_,_,J,rC,J,(ht J),J⟩⟩⟩))<|zo J (bF (r:=cn) (ys:=[ON,KJ]) (xs:=[.tmp 17,.tmp 21]) o9 je J J J J J ⟨(ht J),(ht J),be⟩)<|zo J (cJ (y:=(⟨[ON,KJ]⟩:eM)) nR IC oL (⟨_,_,_,_,_,J,uG,J,(ht J),J⟩))<|bT<|aC lL J ax J (ht J) (ht J)<|aT 0 J<|aC nR J ax J (ht J) (ht J)<|aT 1 J<|ap ?_;refine am ?_;cases so h;exact AV J J ⟨nr lL J J J,nr nR J J J,be⟩

theorem M4{R:Bool}(h:q4=some R):bg aP 8 [] (ij R):=by
 refine bg.of Tryz.func8 J J J fun w0 S0=>aq<|zo J (fP)<|ap<|aq<|bP h fun r q_r h=>zo J (aO PI (LK q_r) trivial)<|aA J<|zo J (lv J J)<|zo J (lv J J)<|aX (r:=ck) (x:=vL) lL (fun _=>lK _) J fun b=>aX (r:=dk) (x:=H1) nR (fun _=>oL _) J fun b1=>bT<|aC lL J ax J (ht J) (ht J)<|aT 1 J<|aC nR J ax J (ht J) (ht J)<|aT 2 J<|ap<|aq ?_;refine zo J (bE nR J J)<|zo J (bE lL J J)<|bP h fun r1 q_r1 h=>zo J (aO Oj (Ho _ _ q_r1) ⟨(ht J),(ht J),be⟩)<|aA J<|zo J (lv J J)<|zo J (lv J J)<|zo J (lv J J)<|bu J<|bu J<|bu J<|ap<|aq<|zo J (bE nR J J)<|zo J (bE lL J J)<|bP h fun r2 q_r2 h=>zo J (aO Oh (Hn _ _ _ q_r2) ⟨(ht J),(ht J),hI,be⟩)<|aA J<|zo J (lv J J)<|zo J (lv J J)<|bu J<|bu J ?_;refine ap<|aq<|zo J (cJ (y:=H1) nR IC oL (J))<|zo J (bE lL J J)<|bP h fun r3 q_r3 h=>zo J (aO LY (Dq _ _ q_r3) ⟨(ht J),(ht J),be⟩)<|aA J<|zo J (lv J J)<|zo J (lv J J)<|zo J (lv J J)<|bu J<|bu J<|bu J<|ap<|aq<|zo J (bE nR J J)<|bP h fun r4 q_r4 h=>zo J (aO N5 (Hk _ _ q_r4) ⟨(ht J),hI,be⟩)<|aA J<|zo J (lv J J) ?_;refine zo J (lv J J)<|zo J (lv J J)<|bu J<|bu J<|bu J<|ap<|aq<|aA J<|zo J (j6 J)<|aA J<|bD J J (fun hg=>cN J)<|bD J J (fun hg=>bv (aI J hg) hI)<|zo J (ky J J)<|aA J<|bD J J (fun hg=>cN J)<|bD J J (fun hg=>bv (aI J hg) hI)<|zo J (ky J J)<|aA J<|bD J J (fun hg=>cN J)<|zo J (ky J J)<|aA J<|bD J J (fun hg=>cN J) ?_;refine bD J J (fun hg=>bv (aI J hg) hI)<|zo J (ky J J)<|aA J<|bD J J (fun hg=>cN J)<|bD J J (fun hg=>bv (aI J hg) hI)<|zo J (ky J J)<|aA J<|bD J J (fun hg=>cN J)<|bD J J (fun hg=>bI rU (aI J hg))<|bD J J (fun hg=>bv (aI J hg) hI)<|zo J (ky J J)<|aA J<|bP h fun t q_t h=>bD J J (fun hg=>cN J) ?_
 obtain⟨e,h1t,h0t⟩:=og q_t
 have q_eg:=fun hb=>(h1t hb).1
 refine bD J J (fun hg=>cq rU ek J (aI J hg) hI (q_eg hg))<|bD J J (fun hg=>cB ln J fO J (aI J hg))<|bD J J (fun hg=>aL bJ J J (aI J hg))<|bD J J (fun hg=>bv (aI J hg) hI)<|zo J (dv (ht J) (fun hb=>(aI J hb)) (fun hb=>(h1t hb).2) h0t)<|aA J<|bP h fun t1 q_t1 h=>bD J J (fun hg=>cN J) ?_
 obtain⟨e1,h1t1,h0t1⟩:=og q_t1
 have q_e1g:=fun hb=>(h1t1 hb).1
 refine bD J J (fun hg=>cq rU ek J (aI J hg) hI (q_e1g hg))<|bD J J (fun hg=>cB pi J kr J (aI J hg))<|bD J J (fun hg=>aL bV J J (aI J hg))<|bD J J (fun hg=>bI dp (aI J hg))<|bD J J (fun hg=>bv (aI J hg) hI)<|zo J (dv (ht J) (fun hb=>(aI J hb)) (fun hb=>(h1t1 hb).2) h0t1)<|bu J<|ap<|am ?_;cases so h;exact aH J J

theorem IR(l:(List bo))(most:Int){R:(List bo)}(h:jp l most=some R):fx aP 33 [fX (cg) l,cd most] false cg 40 R:=by
 refine fx.of Tryz.func33 J J J fun w0 S0=>aq<|ci false cg 40<|zo J (aZ q5)<|ap<|aq<|fR (r:=cg) (ys:=([]:List bo)) (xs:=[]) pq nQ J J J J J trivial J fun l1 c=>aA J<|aA J<|zo J (jL pq J)<|aA J<|zo J (mz (ht J) (ht J))<|bP h fun y q_y h=>zo J (kQ pq nQ J (ht J) (ht J) q_y)<|bP h fun x q_x h=>dj nQ J J J J pq J J (ht J) (ht J) q_x fun l2 c1=>bu J<|ap<|am ?_;cases so h;exact gN J J
theorem IQ(l:(List aU))(most:Int){R:(List aU)}(h:gC l most=some R):fx aP 34 [fX (bR) l,cd most] false bR 42 R:=by
 refine fx.of Tryz.func34 J J J fun w0 S0=>aq<|ci false bR 42<|zo J (aZ q5)<|ap<|aq<|fR (r:=bR) (ys:=([]:List aU)) (xs:=[]) pN mQ J J J J J trivial J fun l1 c=>aA J<|aA J<|zo J (jL pN J)<|aA J<|zo J (mz (ht J) (ht J))<|bP h fun y q_y h=>zo J (kQ pN mQ J (ht J) (ht J) q_y)<|bP h fun x q_x h=>dj mQ J J J J pN J J (ht J) (ht J) q_x fun l2 c1=>bu J<|ap<|am ?_;cases so h;exact gN J J
theorem LJ(l:(List aU))(most:Int){R:(List aU)}(h:gC l most=some R):bg aP 34 [fX (bR) l,cd most] (fX (bR) R):=(IQ _ _ h).spec

theorem IP(l:(List Int))(most:Int){R:(List Int)}(h:fA l most=some R):fx aP 35 [lW l,cd most] false bU 3 R:=by
 refine fx.of Tryz.func35 J J J fun w0 S0=>aq<|ci false bU 3<|zo J (aZ q5)<|ap<|aq<|fR (r:=bU) (ys:=mP) (xs:=[]) dp bJ J J J J J trivial J fun l1 c=>aA J<|aA J<|zo J (jL dp J)<|aA J<|zo J (mz (ht J) (ht J))<|bP h fun y q_y h=>zo J (kQ dp bJ J (ht J) (ht J) q_y)<|bP h fun x q_x h=>dj bJ J J J J dp J J (ht J) (ht J) q_x fun l2 c1=>bu J<|ap<|am ?_;cases so h;exact gN J J
theorem Dp(l:(List Int))(most:Int){R:(List Int)}(h:fA l most=some R):bg aP 35 [lW l,cd most] (lW R):=(IP _ _ h).spec

theorem MZ(c:bz){R:bz}(h:oT c=some R):bg aP 9 [tD ck c] (tD ck R):=by
 refine bg.of Tryz.func9 J J J fun w0 S0=>aq<|zo J (mp J)<|aX (r:=ck) (x:=vL) lL (fun _=>lK _) J fun b=>ap<|aq<|zo J (bZ nI hG J J)<|zo J (bE uz J J)<|bP h fun r q_r h=>jb PH (IR _ _ q_r) ⟨(ht J),hI,be⟩ J fun l c1=>zo J (cJ (y:=gq (⟨r⟩:bz) (ai l c1 r.length)) lL MS te (⟨_,_,_,_,_,J,wJ,J,(Aq (ht J)),J⟩))<|ci false cg 40<|aX (r:=fG) (x:=gq vL (ai none 0 (([]:List bo).length))) lL te J fun b1=>d9 lL J (lb J) J (ht J) (ht J)<|bT<|uh<|ap<|ae<|aq ?_;refine zo J (fq 0 nI J J J)<|zo J (dG uz mB (.head _) J (ht J))<|zo J (em pq (.tail _ (.head _)) (ht J))<|zo J (bj hI)<|ap<|av<|hU (.tail _ (.head _)) fun hN=>bO<|dV<|dV<|lj ?_;refine aM (ki (Z:=fun ls i out=>(r.drop i=ls)∧kU ls i out=some R) (Of:=fun _ i out=>[bx ck 24 b vL,bx fG 24 b1 (gq out (ai l c1 out.Tables.length)),cr cg 40 l c1 out.Tables]) (Gf:=fun _ i out=>[(2,tV (aD b 0)),(3,tV (aD b1 0)),(11,n6 l c1 r),(12,jt r),(13,cd (i:Int))]) (fun i out h=>?_) (fun e tl ih i out h=>?_) r 0 ({(⟨r⟩:bz)with Tables:=r}:bz) ⟨J,h⟩) (bh J)
 ·obtain⟨hx,h⟩:=h
  refine au<|aq<|zo J (fM J J)<|ap<|ae<|bt (ht J) (du hx)<|bn ?_;refine ac (ac (aG ?_));refine an<|aq<|kw<|jI<|zo rfl (p7 (q:=ck) (y:=out) lL J J J J (.tail _ (.tail _ (.head _))) (fun _ _ _ ho h=>ua (iT ho (.head _)) h) (ht J))<|bT<|aC lL J ax J (ht J) (ht J)<|aT 2 J<|ap<|am<|bw<|bw ?_;cases so h;exact f8 J lL J J J
 ·obtain⟨hx,h⟩:=h
  refine au<|aq<|zo J (fM J J)<|ap<|ae<|br (ht J) (dn hx)<|eK<|ae<|av<|aq<|aA J<|bP h fun e1 q_e1 h=>zo J (nf pq nQ (.tail _ (.tail _ (.head _))) (ht J) (ht J) q_e1 (Dw hx))<|bP h fun e2 q_e2 h=>zo J (dR (r:=cg) (i:=(i:Int)) (foff:=0) nQ J J cV J (.tail _ (.tail _ (.head _))) q_e2 (ht J))<|aX (r:=cg) (x:=(⟨[],[],[]⟩:bo)) nQ (fun _=>wx _) J fun b2=>bu J<|aC nQ J ax J (ht J) (ht J)<|aT 5 J<|aK ?_;refine an<|bP h fun r1 q_r1 h=>bP h fun r2 q_r2 h=>bP h fun st q_st h=>?_
  refine nB 15 [tc (tV (aD b1 0)),tc (n6 l c1 out.Tables),tc (cd (i:Int)),tc (tV (aD b1 0)),tc (n6 l c1 out.Tables),tc (cd (i:Int)),tc (bB (dL bR) e2.Columns),tc (fX (bR) e2.Columns),tc (fX (bR) r1),tc (bB gH e2.Keys),tc (lW e2.Keys),tc (lW r2),tc (tV (iE l ((i:Int).toNat*3+0))),tc (tV (iE l ((i:Int).toNat*3+1))),tc (wE)] [false,false,false,false,false,false,false,false,false,false,false,false,false,false,true] [fun _=>[bx ck 24 b vL,bx fG 24 b1 (gq out (ai l c1 out.Tables.length)),cr cg 40 l c1 out.Tables],fun sg=>[cr cg 40 l c1 st,bx ck 24 b vL,bx fG 24 b1 (gq out (ai l c1 out.Tables.length))]] J mixed J J J J J
   ⟨⟨[⟨3,fun _=>tV (aD b1 0),none⟩],_,0,0,J,⟨(fun _=>J),be⟩,J,J,J,J,J,fun _ sg _ _=>ah J (fq 0 nI J J J)⟩,
   ⟨⟨[⟨18,fun _=>tV (aD b1 0),some 0⟩],_,0,0,J,⟨(fun _=>J),be⟩,J,J,J,J,J,oG (fun sg=>ah J (dG uz mB (.tail _ (.head _)) J (ht J)))⟩,
   ⟨⟨[⟨4,fun _=>tD bU (i:Int),none⟩],_,0,0,J,⟨(fun _=>J),be⟩,J,J,J,J,J,fun _ sg _ _=>ah J (cN J)⟩,
   ⟨⟨[⟨3,fun _=>tV (aD b1 0),none⟩],_,0,1,J,⟨(fun _=>J),be⟩,J,J,J,J,J,fun _ sg _ _=>ah J (fq 0 nI J J J)⟩,
   ⟨⟨[⟨21,fun _=>tV (aD b1 0),some 3⟩],_,0,1,J,⟨(fun _=>J),be⟩,J,J,J,J,J,yl (fun sg=>ah J (dG uz mB (.tail _ (.head _)) J (ht J))) (oG (fun sg=>ah J (dG uz mB (.tail _ (.tail _ (.head _))) J (ht J))))⟩,
   ⟨⟨[⟨4,fun _=>tD bU (i:Int),none⟩],_,0,1,J,⟨(fun _=>J),be⟩,J,J,J,J,J,fun _ sg _ _=>ah J (cN J)⟩,
   ⟨⟨[⟨5,fun _=>bB cg e2,none⟩],_,0,0,J,⟨(fun _=>J),be⟩,J,J,J,J,J,fun _ sg _ _=>ah J (bZ qi kX J J)⟩,
   ⟨⟨[⟨24,fun _=>bB (dL bR) e2.Columns,some 6⟩],_,0,0,J,⟨(fun _=>J),be⟩,J,J,J,J,J,fun _ sg _ _=>ah J (bE zY J J)⟩,
   ⟨⟨[⟨25,fun _=>tD (dL bR) e2.Columns,some 7⟩],_,0,0,J,⟨(fun _=>J),be⟩,J,J,J,J,J,fun _ sg _ _=>ah J (aO PG (LJ _ _ q_r1) ⟨(ht J),hI,be⟩)⟩,
   ⟨⟨[⟨5,fun _=>bB cg e2,none⟩],_,0,0,J,⟨(fun _=>J),be⟩,J,J,J,J,J,fun _ sg _ _=>ah J (bZ xA qe J J)⟩,
   ⟨⟨[⟨27,fun _=>bB pP e2.Keys,some 9⟩],_,0,0,J,⟨(fun _=>J),be⟩,J,J,J,J,J,fun _ sg _ _=>ah J (bE bV J J)⟩,
   ⟨⟨[⟨28,fun _=>tD pP e2.Keys,some 10⟩],_,0,0,J,⟨(fun _=>J),be⟩,J,J,J,J,J,fun _ sg _ _=>ah J (aO LX (Dp _ _ q_r2) ⟨(ht J),hI,be⟩)⟩,
   ⟨⟨[⟨19,fun _=>tV (ai l c1 out.Tables.length),some 1⟩,⟨20,fun _=>tD bU (i:Int),some 2⟩],_,0,0,J,⟨(fun _=>J),(fun _=>J),be⟩,J,J,J,J,J,oG (fun sg=>ah J (cz pq nQ (.tail _ (.tail _ (.head _))) (ht J) (ht J) q_e2))⟩,
   ⟨⟨[⟨30,fun _=>tV (iE l ((i:Int).toNat*3+0)),some 12⟩],_,0,0,J,⟨(fun _=>J),be⟩,J,J,J,J,J,oG (fun sg=>ah J (eU (o:=(i:Int).toNat*3+0) (n:=(i:Int).toNat*3+1) qi J (.tail _ (.tail _ (.head _))) q_e2 (ht J) J))⟩,
   ⟨⟨[⟨31,fun _=>tV (iE l ((i:Int).toNat*3+1)),some 13⟩,⟨26,fun _=>tD (dL bR) r1,some 8⟩],_,J,⟨(fun _=>J),(fun _=>J),be⟩,J,J,J,fun sg=>eJ J (EffOK.fr2 (Du (r:=cg) (i:=(i:Int)) (foff:=1) zY J wN J q_e2 (so q_st) (ht J) (ht J)))⟩,
   be⟩⟩⟩⟩⟩⟩⟩⟩⟩⟩⟩⟩⟩⟩⟩ (fun sg=>?_)
  refine(show RG _ _ _ _ [cr cg 40 l c1 st,bx ck 24 b vL,bx fG 24 b1 (gq out (ai l c1 out.Tables.length))] _ from ?_);refine mI (O' :=[cr cg 40 l c1 st,bx ck 24 b vL,bx fG 24 b1 (gq out (ai l c1 st.length))]) (by rw [gK (so q_st)])<|bP h fun e3 q_e3 h=>zo J (cz pq nQ (.head _) (ht J) (ht J) q_e3 ((gK (so q_st)).symm))<|zo J (eU (o:=(i:Int).toNat*3+0) (n:=(i:Int).toNat*3+2) xA J (.head _) q_e3 (ht J) J)<|bP h fun st1 q_st1 h=>ku bV J wM J q_e3 (so q_st1) (ht J) (ht J)<|mI (O' :=[cr cg 40 l c1 st1,bx ck 24 b vL,bx fG 24 b1 (gq out (ai l c1 st1.length))]) (by rw [gK (so q_st1)])<|aK<|al<|an<|ak<|zo rfl (lk (cQ hx hN) rfl)<|aA rfl<|aK<|aJ<|aJ ?_;exact aW (aM (ih (i+1) ({out with Tables:=st1}:bz) ⟨cP hx,h⟩) (bh J))

theorem IN(l:(List aB))(most:Int){R:(List aB)}(h:jq l most=some R):fx aP 36 [fX (aE) l,cd most] false aE 50 R:=by
 refine fx.of Tryz.func36 J J J fun w0 S0=>aq<|ci false aE 50<|zo J (aZ q5)<|ap<|aq<|fR (r:=aE) (ys:=([]:List aB)) (xs:=[]) la d3 J J J J J trivial J fun l1 c=>aA J<|aA J<|zo J (jL la J)<|aA J<|zo J (mz (ht J) (ht J))<|bP h fun y q_y h=>zo J (kQ la d3 J (ht J) (ht J) q_y)<|bP h fun x q_x h=>dj d3 J J J J la J J (ht J) (ht J) q_x fun l2 c1=>bu J<|ap<|am ?_;cases so h;exact gN J J
theorem IM(l:(List fU))(most:Int){R:(List fU)}(h:kF l most=some R):fx aP 37 [fX (cT) l,cd most] false cT 107 R:=by
 refine fx.of Tryz.func37 J J J fun w0 S0=>aq<|ci false cT 107<|zo J (aZ q5)<|ap<|aq<|fR (r:=cT) (ys:=([]:List fU)) (xs:=[]) mO gJ J J J J J trivial J fun l1 c=>aA J<|aA J<|zo J (jL mO J)<|aA J<|zo J (mz (ht J) (ht J))<|bP h fun y q_y h=>zo J (kQ mO gJ J (ht J) (ht J) q_y)<|bP h fun x q_x h=>dj gJ J J J J mO J J (ht J) (ht J) q_x fun l2 c1=>bu J<|ap<|am ?_;cases so h;exact gN J J
theorem IL(l:(List bk))(most:Int){R:(List bk)}(h:jW l most=some R):fx aP 38 [fX (bc) l,cd most] false bc 45 R:=by
 refine fx.of Tryz.func38 J J J fun w0 S0=>aq<|ci false bc 45<|zo J (aZ q5)<|ap<|aq<|fR (r:=bc) (ys:=H0) (xs:=[]) qL gj J J J J J trivial J fun l1 c=>aA J<|aA J<|zo J (jL qL J)<|aA J<|zo J (mz (ht J) (ht J))<|bP h fun y q_y h=>zo J (kQ qL gj J (ht J) (ht J) q_y)<|bP h fun x q_x h=>dj gj J J J J qL J J (ht J) (ht J) q_x fun l2 c1=>bu J<|ap<|am ?_;cases so h;exact gN J J
theorem IK(l:(List iA))(most:Int){R:(List iA)}(h:iW l most=some R):fx aP 39 [fX (fT) l,cd most] false fT 111 R:=by
 refine fx.of Tryz.func39 J J J fun w0 S0=>aq<|ci false fT 111<|zo J (aZ q5)<|ap<|aq<|fR (r:=fT) (ys:=([]:List iA)) (xs:=[]) s7 tg J J J J J trivial J fun l1 c=>aA J<|aA J<|zo J (jL s7 J)<|aA J<|zo J (mz (ht J) (ht J))<|bP h fun y q_y h=>zo J (kQ s7 tg J (ht J) (ht J) q_y)<|bP h fun x q_x h=>dj tg J J J J s7 J J (ht J) (ht J) q_x fun l2 c1=>bu J<|ap<|am ?_;cases so h;exact gN J J
theorem LI(l:(List iA))(most:Int){R:(List iA)}(h:iW l most=some R):bg aP 39 [fX (fT) l,cd most] (fX (fT) R):=(IK _ _ h).spec

theorem II(l:(List bq))(most:Int){R:(List bq)}(h:jr l most=some R):fx aP 72 [fX (aQ) l,cd most] false aQ 149 R:=by
 refine fx.of Tryz.func72 J J J fun w0 S0=>aq<|ci false aQ 149<|zo J (aZ q5)<|ap<|aq<|fR (r:=aQ) (ys:=Gy) (xs:=[]) jv dy J J J J J trivial J fun l1 c=>aA J<|aA J<|zo J (jL jv J)<|aA J<|zo J (mz (ht J) (ht J))<|bP h fun y q_y h=>zo J (kQ jv dy J (ht J) (ht J) q_y)<|bP h fun x q_x h=>dj dy J J J J jv J J (ht J) (ht J) q_x fun l2 c1=>bu J<|ap<|am ?_;cases so h;exact gN J J
theorem Do(e:bk){R:bk}(h:me e=some R):bg aP 40 [tD bc e] (tD bc R):=by
 refine bg.of Tryz.func40 J J J fun w0 S0=>aq<|zo J (mp J)<|aX (r:=bc) (x:=qG) gj (fun _=>pO _) J fun b=>ap<|aq<|zo J (bZ fv c9 J J)<|zo J (bE mo J J)<|bP h fun r q_r h=>jb Pv (II _ _ q_r) ⟨(ht J),hI,be⟩ J fun l c=>zo J (cJ (y:=iK (⟨r⟩:bk) (ai l c r.length)) gj MQ rx (⟨_,_,_,_,_,J,vf,J,(Aq (ht J)),J⟩))<|ci false aQ 149<|aX (r:=iF) (x:=iK qG (ai none 0 (Gy.length))) gj rx J fun b1=>d9 gj J (lb J) J (ht J) (ht J)<|bT<|uh<|ap<|ae<|aq ?_;refine zo J (fq 0 fv J J J)<|zo J (dG mo oY (.head _) J (ht J))<|zo J (em jv (.tail _ (.head _)) (ht J))<|zo J (bj hI)<|ap<|av<|hU (.tail _ (.head _)) fun hN=>bO<|dV<|dV<|lj ?_;refine aM (ki (Z:=fun ls i out=>(r.drop i=ls)∧kV ls i out=some R) (Of:=fun _ i out=>[bx bc 45 b qG,bx iF 45 b1 (iK out (ai l c out.Nodes.length)),cr aQ 149 l c out.Nodes]) (Gf:=fun _ i out=>[(2,tV (aD b 0)),(3,tV (aD b1 0)),(12,jt r),(13,cd (i:Int))]) (fun i out h=>?_) (fun e1 tl ih i out h=>?_) r 0 ({(⟨r⟩:bk)with Nodes:=r}:bk) ⟨J,h⟩) (bh J)
 ·obtain⟨hx,h⟩:=h
  refine au<|aq<|zo J (fM J J)<|ap<|ae<|bt (ht J) (du hx)<|bn ?_;refine ac (ac (aG ?_));refine an<|aq<|kw<|jI<|zo rfl (p7 (q:=bc) (y:=out) gj J J J J (.tail _ (.tail _ (.head _))) (fun _ _ _ ho h=>rl (iT ho (.head _)) h) (ht J))<|bT<|aC gj J ax J (ht J) (ht J)<|aT 2 J<|ap<|am<|bw<|bw ?_;cases so h;exact f8 J gj J J J
 ·obtain⟨hx,h⟩:=h
  refine au<|aq<|zo J (fM J J)<|ap<|ae<|br (ht J) (dn hx)<|eK<|ae<|av<|aq<|aA J<|bu J<|ap<|aq<|zo J (fq 0 fv J J J)<|zo J (dG mo oY (.tail _ (.head _)) J (ht J))<|aA J<|bP h fun e2 q_e2 h=>?_;refine zo J (cz jv dy (.tail _ (.tail _ (.head _))) (ht J) (ht J) q_e2)<|zo J (eU (o:=(i:Int).toNat*8+0) (n:=(i:Int).toNat*8+4) tU J (.tail _ (.tail _ (.head _))) q_e2 (ht J) J)<|zo J (eU (o:=(i:Int).toNat*8+4) (n:=(i:Int).toNat*8+7) Dj J (.tail _ (.tail _ (.head _))) q_e2 (ht J) J)<|bu J<|ap<|bP h fun y q_y h=>?_
  refine oF 11 (ts:=[tV (iE l ((i:Int).toNat*8+7)),tV (iE l ((i:Int).toNat*8+7)),tV (iE l ((i:Int).toNat*8+7)),tD rS e2.Value.S,tV (iE l ((i:Int).toNat*8+7)),tV (iE l ((i:Int).toNat*8+7)),tD rS e2.Value.S,jt e2.Value.S,cd (min (e2.Value.S.length:Int) (41:Int)),tD rS y,tV (iE l ((i:Int).toNat*8+7))]) mixed J J J
   ⟨iD 5 J J J (cN J),
   ⟨iD 5 J J J (cN J),
   ⟨cR 23 1 J J J (nV (.tail _ (.tail _ (.head _))) q_e2 (ht J)),
   ⟨cR 24 2 J J J (dR (r:=aQ) (i:=(i:Int)) (foff:=7) CI J J (ew lS qc) J (.tail _ (.tail _ (.head _))) q_e2 (ht J)),
   ⟨iD 5 J J J (cN J),
   ⟨cR 26 4 J J J (nV (.tail _ (.tail _ (.head _))) q_e2 (ht J)),
   ⟨cR 27 5 J J J (dR (r:=aQ) (i:=(i:Int)) (foff:=7) CI J J (ew lS qc) J (.tail _ (.tail _ (.head _))) q_e2 (ht J)),
   ⟨cR 28 6 J J J (Ak jP (ht J)),
   ⟨cR 29 7 J J J (mz (ht J) hI),
   ⟨fB 25 3 30 8 J J J J (FA jP (ht J) (ht J) q_y),
   ⟨cR 22 0 J J J (nV (.tail _ (.tail _ (.head _))) q_e2 (ht J)),
   be⟩⟩⟩⟩⟩⟩⟩⟩⟩⟩⟩ ?_
  refine kw<|bP h fun st q_st h=>ku CI J (Fj lS CR wK) J q_e2 (so q_st) (ht J) (ht J)<|iM (gK (so q_st)) 17 J<|mI (O' :=[cr aQ 149 l c st,bx bc 45 b qG,bx iF 45 b1 (iK out (ai l c st.length))]) (by rw [gK (so q_st)])<|aK<|al<|an<|ak<|zo rfl (lk (cQ hx hN) rfl)<|aA rfl<|aK<|aJ<|aJ ?_;exact aW (aM (ih (i+1) ({out with Nodes:=st}:bk) ⟨cP hx,h⟩) (bh J))

theorem JB(l:(List aB)){R:(List aB)}(h:oU l=some R):fx aP 10 [fX (aE) l] false aE 50 R:=by
 refine fx.of Tryz.func10 J J J fun w0 S0=>aq<|ci false aE 50<|zo J (aZ q5)<|ap<|aq<|aA J<|bP h fun r q_r h=>jb PF (IN _ _ q_r) ⟨(ht J),hI,be⟩ J fun l1 c=>bu J<|ap<|ae<|aq<|aA J<|zo J (em la (.head _) (ht J))<|zo J (bj hI)<|ap<|av ?_;refine hU (.head _) fun hN=>bO<|dV<|nk ?_;refine aM (ER (Z:=fun k i out=>(r.length-i=k)∧gB k i out=some R) (Of:=fun _ i out=>[cr aE 50 l1 c out]) (Gf:=fun _ i out=>[(3,n6 l1 c out),(12,n6 l1 c r),(13,jt r),(14,cd (i:Int))]) (fun i out h=>?_) (fun k1 ih i out h=>?_) r.length 0 r ⟨J,h⟩) (bh J)
 ·obtain⟨hx,h⟩:=h
  refine au<|aq<|zo J (fM J J)<|ap<|ae<|bt (ht J) (Lf hx)<|bn ?_;refine ac (ac (aG ?_));refine an<|aq<|aA rfl<|bu rfl<|ap<|am ?_;cases so h;exact gN J J
 ·obtain⟨hx,h⟩:=h
  refine au<|aq<|zo J (fM J J)<|ap<|ae<|br (ht J) (Le hx)<|eK<|ae<|av<|aq<|aA J<|bP h fun e1 q_e1 h=>zo J (nf la d3 (.head _) (ht J) (ht J) q_e1 (MG hx))<|bP h fun e2 q_e2 h=>zo J (dR (r:=aE) (i:=(i:Int)) (foff:=0) d3 J J cV J (.head _) q_e2 (ht J))<|ci false cT 107<|ci false bc 45<|aX (r:=eE) (x:=iU AW (ai none 0 (([]:List fU).length)) (ai none 0 (H0.length))) d3 zO J fun b=>bu J<|d9 (r' :=aE) (x' :=e2) d3 J (lb J) J (ht J) (ht J) ?_;refine(show RG _ _ _ _ [bx aE 50 b e2,cr bc 45 none 0 H0,cr cT 107 none 0 ([]:List fU),cr aE 50 l1 c out] _ from ?_);refine bT<|uh<|bT<|uh<|ap<|ae<|bP h fun r1 q_r1 h=>bP h fun r2 q_r2 h=>bP h fun r3 q_r3 h=>bP h fun r4 q_r4 h=>bP h fun r5 q_r5 h=>?_
  refine nB 16 [tc (tV (aD b 4)),tc (lW e2.Kinds),tc (lW r1),tc (tV (aD b 7)),tc (lW e2.Keys),tc (lW r2),tc (tV (aD b 8)),tc (fX (cT) e2.Aggs),([8],fun s=>tV (ai ((s.getD 0 sa).h 0).1 ((s.getD 0 sa).h 0).2 r3.length)),tc (tV (aD b 9)),tc (fX (bc) e2.Items),([11],fun s=>tV (ai ((s.getD 0 sa).h 0).1 ((s.getD 0 sa).h 0).2 r4.length)),tc (tV (aD b 10)),tc (fX (fT) e2.Order),tc (fX (fT) r5),tc (tV (aD b 4))] [false,false,false,false,false,false,false,false,true,false,false,true,false,false,false,false] [fun _=>[bx aE 50 b e2,cr aE 50 l1 c out],fun sg=>[cr cT 107 ((sg 8).h 0).1 ((sg 8).h 0).2 r3,bx aE 50 b e2,cr aE 50 l1 c out],fun sg=>[cr bc 45 ((sg 11).h 0).1 ((sg 11).h 0).2 r4,cr cT 107 ((sg 8).h 0).1 ((sg 8).h 0).2 r3,bx aE 50 b e2,cr aE 50 l1 c out]] J mixed J J J J J
   ⟨⟨[⟨5,fun _=>tV (aD b 0),none⟩],_,0,0,J,⟨(fun _=>J),be⟩,J,J,J,J,J,fun _ sg _ _=>ah J (fq 4 m6 J J J)⟩,
   ⟨⟨[⟨19,fun _=>tV (aD b 4),some 0⟩],_,0,0,J,⟨(fun _=>J),be⟩,J,J,J,J,J,oG (fun sg=>ah J (aV bV J J gQ (.head _) (ht J)))⟩,
   ⟨⟨[⟨20,fun _=>tD pP e2.Kinds,some 1⟩],_,0,0,J,⟨(fun _=>J),be⟩,J,J,J,J,J,fun _ sg _ _=>ah J (aO LX (Dp _ _ q_r1) ⟨(ht J),hI,be⟩)⟩,
   ⟨⟨[⟨5,fun _=>tV (aD b 0),none⟩],_,0,0,J,⟨(fun _=>J),be⟩,J,J,J,J,J,fun _ sg _ _=>ah J (fq 7 lq J J J)⟩,
   ⟨⟨[⟨22,fun _=>tV (aD b 7),some 3⟩],_,0,0,J,⟨(fun _=>J),be⟩,J,J,J,J,J,oG (fun sg=>ah J (aV bV J J ff (.head _) (ht J)))⟩,
   ⟨⟨[⟨23,fun _=>tD pP e2.Keys,some 4⟩],_,0,0,J,⟨(fun _=>J),be⟩,J,J,J,J,J,fun _ sg _ _=>ah J (aO LX (Dp _ _ q_r2) ⟨(ht J),hI,be⟩)⟩,
   ⟨⟨[⟨5,fun _=>tV (aD b 0),none⟩],_,0,0,J,⟨(fun _=>J),be⟩,J,J,J,J,J,fun _ sg _ _=>ah J (fq 8 kZ J J J)⟩,
   ⟨⟨[⟨25,fun _=>tV (aD b 8),some 6⟩],_,0,0,J,⟨(fun _=>J),be⟩,J,J,J,J,J,oG (fun sg=>ah J (aV qP J J fI (.head _) (ht J)))⟩,
   ⟨⟨[⟨26,fun _=>tD (dL cT) e2.Aggs,some 7⟩],_,J,⟨(fun _=>J),be⟩,J,J,J,fun sg=>eJ J (zt (xs:=[.tmp 26,.const (.int .i64 (14))]) (ts:=[tD (dL cT) e2.Aggs,tD bU (14:Int)]) PE (IM _ _ q_r3) ⟨(ht J),hI,be⟩)⟩,
   ⟨⟨[⟨5,fun _=>tV (aD b 0),none⟩],_,0,1,J,⟨(fun _=>J),be⟩,J,J,J,J,J,fun _ sg _ _=>ah J (fq 9 sU J J J)⟩,
   ⟨⟨[⟨28,fun _=>tV (aD b 9),some 9⟩],_,0,1,J,⟨(fun _=>J),be⟩,J,J,J,J,J,yl (fun sg=>ah J (aV Bc J J oA (.head _) (ht J))) (oG (fun sg=>ah J (aV Bc J J oA (.tail _ (.head _)) (ht J))))⟩,
   ⟨⟨[⟨29,fun _=>tD (dL bc) e2.Items,some 10⟩],_,J,⟨(fun _=>J),be⟩,J,J,J,fun sg=>eJ J (zt (xs:=[.tmp 29,.const (.int .i64 (17))]) (ts:=[tD (dL bc) e2.Items,tD bU (17:Int)]) PD (IL _ _ q_r4) ⟨(ht J),hI,be⟩)⟩,
   ⟨⟨[⟨5,fun _=>tV (aD b 0),none⟩],_,0,2,J,⟨(fun _=>J),be⟩,J,J,J,J,J,fun _ sg _ _=>ah J (fq 10 qh J J J)⟩,
   ⟨⟨[⟨31,fun _=>tV (aD b 10),some 12⟩],_,0,2,J,⟨(fun _=>J),be⟩,J,J,J,J,J,yl (fun sg=>ah J (aV zX J J jM (.head _) (ht J))) (yl (fun sg=>ah J (aV zX J J jM (.tail _ (.head _)) (ht J))) (oG (fun sg=>ah J (aV zX J J jM (.tail _ (.tail _ (.head _))) (ht J)))))⟩,
   ⟨⟨[⟨32,fun _=>tD (dL fT) e2.Order,some 13⟩],_,2,2,J,⟨(fun _=>J),be⟩,J,J,J,J,J,fun _ sg _ _=>ah J (aO PC (LI _ _ q_r5) ⟨(ht J),hI,be⟩)⟩,
   ⟨⟨[⟨5,fun _=>tV (aD b 0),none⟩],_,0,2,J,⟨(fun _=>J),be⟩,J,J,J,J,J,fun _ sg _ _=>ah J (fq 4 m6 J J J)⟩,
   be⟩⟩⟩⟩⟩⟩⟩⟩⟩⟩⟩⟩⟩⟩⟩⟩ (fun sg=>?_)
  refine(show RG _ _ _ _ [cr bc 45 ((sg 11).h 0).1 ((sg 11).h 0).2 r4,cr cT 107 ((sg 8).h 0).1 ((sg 8).h 0).2 r3,bx aE 50 b e2,cr aE 50 l1 c out] _ from ?_);refine kw<|aC bV J pU J (ht J) (ht J)<|zo J (fq 7 lq J J J)<|aC bV J CQ J (ht J) (ht J)<|zo J (fq 8 kZ J J J)<|d9 qP J (sJ _ _) J (ht J) (Aq (ht J))<|zo J (fq 9 sU J J J)<|d9 Bc J (pS _ _ _) J (ht J) (Aq (ht J))<|zo J (fq 10 qh J J J)<|aC zX J vR J (ht J) (ht J)<|ap<|ae<|aq<|zo J (fq 8 kZ J J J)<|zo J (dG qP q8 (.head _) J (ht J))<|zo J (em mO (.tail _ (.tail _ (.head _))) (ht J))<|zo J (bj hI)<|ap<|av<|hU (.tail _ (.tail _ (.head _))) fun hN1=>bO ?_;refine dV<|lj<|lj<|ej ?_;refine aM (ki (Z:=fun ls i1 n=>(r3.drop i1=ls)∧jD (gB k1) i out ls i1 n=some R) (Of:=fun _ i1 n=>[cr aE 50 l1 c out,bx eE 50 b (iU n (ai ((sg 8).h 0).1 ((sg 8).h 0).2 n.Aggs.length) (ai ((sg 11).h 0).1 ((sg 11).h 0).2 n.Items.length)),cr cT 107 ((sg 8).h 0).1 ((sg 8).h 0).2 n.Aggs,cr bc 45 ((sg 11).h 0).1 ((sg 11).h 0).2 n.Items]) (Gf:=fun _ i1 n=>[(3,n6 l1 c out),(4,cd (i:Int)),(5,tV (aD b 0)),(12,n6 l1 c r),(13,jt r),(14,cd (i:Int)),(40,tV (ai ((sg 8).h 0).1 ((sg 8).h 0).2 r3.length)),(41,jt r3),(42,cd (i1:Int))]) (fun i1 n h=>?_) (fun e3 tl ih1 i1 n h=>?_) r3 0 ({({({(aB.mk e2.Op e2.A e2.B e2.Table r1 e2.Left e2.Cond r2 e2.Aggs e2.Items e2.Order e2.Limit)with Order:=r5}:aB)with Aggs:=r3}:aB)with Items:=r4}:aB) ⟨J,h⟩) (bh J)
  ·obtain⟨hx1,h⟩:=h
   refine au<|aq<|zo J (fM J J)<|ap<|ae<|bt (ht J) (du hx1)<|bn ?_;refine ac (ac (aG ?_));refine an<|ae<|aq<|zo rfl (fq 9 sU rfl rfl rfl)<|zo rfl (dG Bc q7 (.tail _ (.head _)) rfl (ht rfl))<|zo rfl (em qL (.tail _ (.tail _ (.tail _ (.head _)))) (ht rfl))<|zo rfl (bj hI)<|ap<|av<|hU (.tail _ (.tail _ (.tail _ (.head _)))) fun hN2=>bO ?_;refine aM (ki (Z:=fun ls1 i2 n1=>(n.Items.drop i2=ls1)∧jC (gB k1) i out ls1 i2 n1=some R) (Of:=fun _ i2 n1=>[cr aE 50 l1 c out,bx eE 50 b (iU n1 (ai ((sg 8).h 0).1 ((sg 8).h 0).2 n1.Aggs.length) (ai ((sg 11).h 0).1 ((sg 11).h 0).2 n1.Items.length)),cr cT 107 ((sg 8).h 0).1 ((sg 8).h 0).2 n1.Aggs,cr bc 45 ((sg 11).h 0).1 ((sg 11).h 0).2 n1.Items]) (Gf:=fun _ i2 n1=>[(3,n6 l1 c out),(4,cd (i:Int)),(5,tV (aD b 0)),(12,n6 l1 c r),(13,jt r),(14,cd (i:Int)),(57,tV (ai ((sg 11).h 0).1 ((sg 11).h 0).2 n.Items.length)),(58,jt n.Items),(59,cd (i2:Int))]) (fun i2 n1 h=>?_) (fun e4 tl1 ih2 i2 n1 h=>?_) n.Items 0 n ⟨J,h⟩) (bh J)
   ·obtain⟨hx2,h⟩:=h
    refine au<|aq<|zo J (fM J J)<|ap<|ae<|bt (ht J) (du hx2)<|bn ?_;refine ac (ac (aG ?_));refine an<|aq<|zo rfl (fq 6 sV rfl rfl rfl)<|zo rfl (aV gj rfl rfl xv (.tail _ (.head _)) (ht rfl))<|bP h fun r6 q_r6 h=>zo J (aO LW (Do _ q_r6) ⟨(ht J),be⟩)<|zo J (fq 6 sV J J J)<|bT<|aC gj J wI J (ht J) (ht J)<|ap<|ak<|aA J<|aA J<|kw<|jI<|eT<|jI<|zo J (p7 (q:=aE) (y:=({({({n1 with Cond:=r6}:aB)with Aggs:=n1.Aggs}:aB)with Items:=n1.Items}:aB)) d3 J J J J (.tail _ (.tail _ (.head _))) (fun _ _ _ ho h=>t8 (iT ho (.tail _ (.head _))) (iT ho (.head _)) h) (ht J))<|zo J (cz la d3 (.tail _ (.tail _ (.tail _ (.head _)))) (ht J) (ht J) q_e2)<|eT<|bP h fun st q_st h=>ku d3 J ax J q_e2 (so q_st) (ht J) (ht J) ?_;refine iM (gK (so q_st)) 3 J<|iM (gK (so q_st)) 75 J<|aK<|al<|an<|ak<|zo rfl (tE (Ix hx (Lg hN)) (ht rfl) hI)<|aA rfl<|aK<|bf<|bw<|bf<|bw<|bf<|bw ?_;exact aW (aM (ih (i+1) st ⟨Iw hx,h⟩) (bh J))
   ·obtain⟨hx2,h⟩:=h
    refine au<|aq<|zo J (fM J J)<|ap<|ae<|br (ht J) (dn hx2)<|eK<|ae<|av<|aq<|aA J<|bP h fun e5 q_e5 h=>zo J (nf qL gj (.tail _ (.tail _ (.tail _ (.head _)))) (ht J) (ht J) q_e5 (Dw hx2))<|bP h fun e6 q_e6 h=>zo J (dR (r:=bc) (i:=(i2:Int)) (foff:=0) gj J J cV J (.tail _ (.tail _ (.tail _ (.head _)))) q_e6 (ht J))<|aX (r:=bc) (x:=qG) gj (fun _=>pO _) J fun b1=>bu J<|aC gj J ax J (ht J) (ht J)<|aT 9 J<|aK ?_;refine an<|bP h fun r7 q_r7 h=>?_
    refine oF 6 (ts:=[tV (aD b 9),tV (ai ((sg 11).h 0).1 ((sg 11).h 0).2 n1.Items.length),cd (i2:Int),tD bc e6,tD bc r7,tV (iE ((sg 11).h 0).1 ((i2:Int).toNat*1+0))]) mixed J J J
     ⟨iD 5 J J J (fq 9 sU J J J),
     ⟨cR 64 0 J J J (dG Bc q7 (.tail _ (.head _)) J (ht J)),
     ⟨iD 8 J J J (cN J),
     ⟨iD 9 J J J (bE gj J J),
     ⟨cR 67 3 J J J (aO LW (Do _ q_r7) ⟨(ht J),be⟩),
     ⟨fB 65 1 66 2 J J J J (cz qL gj (.tail _ (.tail _ (.tail _ (.head _)))) (ht J) (ht J) q_e6),
     be⟩⟩⟩⟩⟩⟩ ?_
    refine eT<|bP h fun st1 q_st1 h=>ku gj J ax J q_e6 (so q_st1) (ht J) (ht J)<|iM (gK (so q_st1)) 65 J<|mI (O' :=[cr bc 45 ((sg 11).h 0).1 ((sg 11).h 0).2 st1,cr aE 50 l1 c out,bx eE 50 b (iU n1 (ai ((sg 8).h 0).1 ((sg 8).h 0).2 n1.Aggs.length) (ai ((sg 11).h 0).1 ((sg 11).h 0).2 st1.length)),cr cT 107 ((sg 8).h 0).1 ((sg 8).h 0).2 n1.Aggs]) (by rw [gK (so q_st1)])<|aK<|al<|an<|ak<|zo rfl (lk (cQ hx2 hN2) rfl)<|aA rfl<|aK<|bm<|bm<|bm ?_;exact aW (aM (ih2 (i2+1) ({n1 with Items:=st1}:aB) ⟨cP hx2,h⟩) (bh J))
  ·obtain⟨hx1,h⟩:=h
   refine au<|aq<|zo J (fM J J)<|ap<|ae<|br (ht J) (dn hx1)<|eK<|ae<|av<|aq<|aA J<|bP h fun e7 q_e7 h=>zo J (nf mO gJ (.tail _ (.tail _ (.head _))) (ht J) (ht J) q_e7 (Dw hx1))<|bP h fun e8 q_e8 h=>zo J (dR (r:=cT) (i:=(i1:Int)) (foff:=0) gJ J J cV J (.tail _ (.tail _ (.head _))) q_e8 (ht J))<|aX (r:=cT) (x:=CB) gJ (fun _=>sD _) J fun b2=>bu J<|aC gJ J ax J (ht J) (ht J)<|aT 7 J<|aK ?_;refine an<|bP h fun r8 q_r8 h=>?_
   refine oF 8 (ts:=[tV (aD b 8),tV (ai ((sg 8).h 0).1 ((sg 8).h 0).2 n.Aggs.length),cd (i1:Int),bB bc e8.Arg,tD bc e8.Arg,tD bc r8,tV (iE ((sg 8).h 0).1 ((i1:Int).toNat*2+0)),tV (iE ((sg 8).h 0).1 ((i1:Int).toNat*2+1))]) mixed J J J
    ⟨iD 5 J J J (fq 8 kZ J J J),
    ⟨cR 47 0 J J J (dG qP q8 (.tail _ (.head _)) J (ht J)),
    ⟨iD 6 J J J (cN J),
    ⟨iD 7 J J J (bZ qk pC J J),
    ⟨cR 50 3 J J J (bE gj J J),
    ⟨cR 51 4 J J J (aO LW (Do _ q_r8) ⟨(ht J),be⟩),
    ⟨fB 48 1 49 2 J J J J (cz mO gJ (.tail _ (.tail _ (.head _))) (ht J) (ht J) q_e8),
    ⟨cR 53 6 J J J (eU (o:=(i1:Int).toNat*2+0) (n:=(i1:Int).toNat*2+1) qk J (.tail _ (.tail _ (.head _))) q_e8 (ht J) J),
    be⟩⟩⟩⟩⟩⟩⟩⟩ ?_
   refine kw<|bP h fun st2 q_st2 h=>ku gj J GQ J q_e8 (so q_st2) (ht J) (ht J)<|iM (gK (so q_st2)) 48 J<|mI (O' :=[cr cT 107 ((sg 8).h 0).1 ((sg 8).h 0).2 st2,cr aE 50 l1 c out,bx eE 50 b (iU n (ai ((sg 8).h 0).1 ((sg 8).h 0).2 st2.length) (ai ((sg 11).h 0).1 ((sg 11).h 0).2 n.Items.length)),cr bc 45 ((sg 11).h 0).1 ((sg 11).h 0).2 n.Items]) (by rw [gK (so q_st2)])<|aK<|al<|an<|ak<|zo rfl (lk (cQ hx1 hN1) rfl)<|aA rfl<|aK<|bm<|bf<|bm<|bm ?_;exact aW (aM (ih1 (i1+1) ({n with Aggs:=st2}:aB) ⟨cP hx1,h⟩) (bh J))
end Go.Proofs.YtmogpgcfognefaaGreatDoor

