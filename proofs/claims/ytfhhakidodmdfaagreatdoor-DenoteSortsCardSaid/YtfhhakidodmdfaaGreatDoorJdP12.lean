/- da of this claim: P12. -/
import Derived.Test.YtfhhakidodmdfaaGreatDoorJdT
import Derived.Test.YtfhhakidodmdfaaGreatDoorJdP11
set_option linter.all false
namespace Go.Proofs.YtfhhakidodmdfaaGreatDoor
open Go
set_option maxRecDepth 100000

theorem Zi(b:Nat)(ix:OI)(r:cX)(n:am){R:(List (List ac))×Int}(h:j7 r n=some R):c9 aO 58 [tV (aP b 0),tD aL n] (jn b r ix) (fun _:OI=>tT [bR (cK) R.1,bH R.2]) (fun _=>(jn b r ix)):=by
 refine c9.of Tryz.func58 J J J fun w0 S0=>?_;refine(show CG _ _ _ [bx (rH eD [(1,aS (ix.h 0).1 (ix.h 0).2 r.rows.length),(2,aS (ix.h 1).1 (ix.h 1).2 r.width.length)]) 96 b r,d5 d7 32 (ix.h 0).1 (ix.h 0).2 r.rows,d5 bY 3 (ix.h 1).1 (ix.h 1).2 r.width] _ from ?_);refine au<|zo J (jw J)<|zo J (aJ (show aI _ _ _ uj from jA))<|zo J (cq)<|aq<|ah<|bv h fun e q_e h=>bv h fun r1 q_r1 h=>?_
 refine cJ (ts:=[_,_,_,_,_,_,_,_,_,_,_,_,_,_,_]) mixed J J
  ⟨ep 0 J J J (cD J),
  ⟨bT 6 0 J J J (dG (ht J)),
  ⟨bT 7 1 J J J (kG 1 qq J J J),
  ⟨bT 8 2 J J J (di yw J (.head _) (.tail _ (.head _)) (ht J)),
  ⟨ep 3 J J J (cY jR dX J J),
  ⟨bT 10 4 J J J (bB cv J J),
  ⟨dv 9 3 11 5 J J J J (bp p8 hJ J (k7 (ht J)) (ht J) q_e),
  ⟨bT 12 6 J J J (bB hJ J J),
  ⟨ep 3 J J J (cY vP q9 J J),
  ⟨bT 14 8 J J J (bB wt J J),
  ⟨ep 3 J J J (cY AQ tY J J),
  ⟨bT 16 10 J J J (bB cv J J),
  ⟨Ga 13 7 15 9 17 11 J J J J J (aA Zz (XF _ _ _ q_r1) ⟨(ht J),(ht J),(ht J),aR⟩),
  ⟨bT 18 12 J J J (tA J),
  ⟨OX J J (cq),
  aR⟩⟩⟩⟩⟩⟩⟩⟩⟩⟩⟩⟩⟩⟩⟩ ?_
 refine av<|ak<|aK<|aK<|aK ?_;cases so h;exact eg (ts:=[bR (cK) r1,bH 0]) (rvs:=[.tmp 4,.tmp 5]) J J ⟨aX J,aX J,aR⟩ pm J J

theorem XK(l:(List (List ac))){R:(List (List ac))×Int}(h:vE l=some R):aU aO 59 [bR (cK) l] (tT [bR (cK) R.1,bH R.2]):=by
 refine aU.of Tryz.func59 J J J fun w0 S0=>au<|zo J (aJ (show aI _ _ _ uj from jA))<|zo J (cq)<|aq<|ah<|au<|aF J<|zo J (aV (r:=d7) (ys:=[l]) (xs:=[.tmp 5]) p8 hJ J J J J J ⟨(ht J),aR⟩)<|bv h fun r q_r h=>zo J (aA Yk (My _ q_r) ⟨(ht J),aR⟩)<|bm J<|aq<|au<|aF J<|zo J (tE J)<|aq<|cU h J (fun h=>?_) (fun h=>?_)
 ·refine au<|aF J<|zo J (aJ (show aI _ _ _ uj from jA))<|bm J<|aq<|ak<|ae ?_;cases so h;exact cC J J J
 ·refine dR<|au<|aF J<|bv h fun r1 q_r1 h=>iv Wt (Kr _ q_r1) ⟨(ht J),aR⟩ J fun l1 c=>bm J<|zo J (cq)<|aq<|ak<|jb<|cw 2 J<|cw 12 J<|jd 2 J<|bk ?_;cases so h;exact cC J J J

theorem RO(s:(List dn)){R:(List dn)}(h:d9 s=some R):fT aO 187 [bR (d3) s] false d3 60 R:=by
 refine fT.of Tryz.func187 J J J fun w0 S0=>au<|bN false d3 60<|zo J (aJ rY)<|aq<|ah<|au<|aF J<|td uC (ht J) J fun isnil hisnil=>aq<|oG (ht J) (fun hc=>?_) (fun hc=>?_)
 ·have hx:=hisnil hc
  have h:some ([]:List dn)=some R:=by simpa [d9,app,hx] using h
  refine au<|bN false d3 60<|zo J (aJ rY)<|aq<|ak<|ae ?_;cases so h;exact fQ J J
 ·refine dR<|au<|jZ (r:=d3) (ys:=([]:List dn)) (xs:=[]) uC zg J J J J J trivial J fun l c=>aF J<|bv h fun x q_x h=>cT zg J J J J uC J J (ht J) (ht J) q_x fun l1 c1=>bm J<|aq<|ak ?_;cases so h;exact fQ J J
theorem UR(s:(List dn)){R:(List dn)}(h:d9 s=some R):aU aO 187 [bR (d3) s] (bR (d3) R):=(RO _ h).spec

theorem Ko(s:(List bo)){R:(List bo)}(h:cm s=some R):fT aO 188 [bR (bP) s] false bP 80 R:=by
 refine fT.of Tryz.func188 J J J fun w0 S0=>au<|bN false bP 80<|zo J (aJ rY)<|aq<|ah<|au<|aF J<|td z8 (ht J) J fun isnil hisnil=>aq<|oG (ht J) (fun hc=>?_) (fun hc=>?_)
 ·have hx:=hisnil hc
  have h:some ([]:List bo)=some R:=by simpa [cm,app,hx] using h
  refine au<|bN false bP 80<|zo J (aJ rY)<|aq<|ak<|ae ?_;cases so h;exact fQ J J
 ·refine dR<|au<|jZ (r:=bP) (ys:=([]:List bo)) (xs:=[]) z8 qP J J J J J trivial J fun l c=>aF J<|bv h fun x q_x h=>cT qP J J J J z8 J J (ht J) (ht J) q_x fun l1 c1=>bm J<|aq<|ak ?_;cases so h;exact fQ J J
theorem Og(s:(List bo)){R:(List bo)}(h:cm s=some R):aU aO 188 [bR (bP) s] (bR (bP) R):=(Ko _ h).spec

theorem RN(s:(List hY)){R:(List hY)}(h:fg s=some R):fT aO 189 [bR (gm) s] false gm 51 R:=by
 refine fT.of Tryz.func189 J J J fun w0 S0=>au<|bN false gm 51<|zo J (aJ rY)<|aq<|ah<|au<|aF J<|td z6 (ht J) J fun isnil hisnil=>aq<|oG (ht J) (fun hc=>?_) (fun hc=>?_)
 ·have hx:=hisnil hc
  have h:some ([]:List hY)=some R:=by simpa [fg,app,hx] using h
  refine au<|bN false gm 51<|zo J (aJ rY)<|aq<|ak<|ae ?_;cases so h;exact fQ J J
 ·refine dR<|au<|jZ (r:=gm) (ys:=([]:List hY)) (xs:=[]) z6 wu J J J J J trivial J fun l c=>aF J<|bv h fun x q_x h=>cT wu J J J J z6 J J (ht J) (ht J) q_x fun l1 c1=>bm J<|aq<|ak ?_;cases so h;exact fQ J J
theorem RM(s:(List bL)){R:(List bL)}(h:eF s=some R):fT aO 190 [bR (cB) s] false cB 49 R:=by
 refine fT.of Tryz.func190 J J J fun w0 S0=>au<|bN false cB 49<|zo J (aJ rY)<|aq<|ah<|au<|aF J<|td Bn (ht J) J fun isnil hisnil=>aq<|oG (ht J) (fun hc=>?_) (fun hc=>?_)
 ·have hx:=hisnil hc
  have h:some ([]:List bL)=some R:=by simpa [eF,app,hx] using h
  refine au<|bN false cB 49<|zo J (aJ rY)<|aq<|ak<|ae ?_;cases so h;exact fQ J J
 ·refine dR<|au<|jZ (r:=cB) (ys:=([]:List bL)) (xs:=[]) Bn mJ J J J J J trivial J fun l c=>aF J<|bv h fun x q_x h=>cT mJ J J J J Bn J J (ht J) (ht J) q_x fun l1 c1=>bm J<|aq<|ak ?_;cases so h;exact fQ J J
theorem Vj(n:am)(by1:Int){R:am}(h:rW n by1=some R):aU aO 110 [tD aL n,bH by1] (tD aL R):=by
 refine aU.of Tryz.func110 J J J fun w0 S0=>au<|yi (ht J) J fun b=>bc (r:=aL) (x:=IS) iQ (fun _=>pq _) J fun b1=>aq ?_;refine ke (Z:=fun n1=>oE by1 n1=some R) (Of:=fun n1=>[bx aL 71 b n1,bx aL 71 b1 IS]) (Gf:=fun n1=>[(1,bH by1),(2,tV (aP b 0)),(4,tV (aP b1 0))]) (fun n1 h=>?_) (fun K=>?_)
 ·skip
  refine ke (Z:=fun n2=>mO n2=some R) (Of:=fun n2=>[bx aL 71 b n2,bx aL 71 b1 IS]) (Gf:=fun n2=>[(2,tV (aP b 0)),(4,tV (aP b1 0))]) (fun n2 h=>?_) (fun K1=>?_)
  ·skip
   refine ah<|bv h fun r q_r h=>bv h fun r1 q_r1 h=>bv h fun r2 q_r2 h=>?_
   refine tq 10 (ts:=[tV (aP b 4),mf n2.Kinds,mf r,tV (aP b 7),mf n2.Keys,mf r1,tV (aP b 10),bR (d3) n2.Order,bR (d3) r2,tV (aP b 4)]) mixed J J J
    ⟨ep 2 J J J (kG 4 vO J J J),
    ⟨bT 23 0 J J J (cd eC J J oV (.head _) (ht J)),
    ⟨bT 24 1 J J J (aA R8 (RB _ q_r) ⟨(ht J),aR⟩),
    ⟨ep 2 J J J (kG 7 uu J J J),
    ⟨bT 26 3 J J J (cd eC J J nG (.head _) (ht J)),
    ⟨bT 27 4 J J J (aA R8 (RB _ q_r1) ⟨(ht J),aR⟩),
    ⟨ep 2 J J J (kG 10 vP J J J),
    ⟨bT 29 6 J J J (cd wt J J q9 (.head _) (ht J)),
    ⟨bT 30 7 J J J (aA aaO (UR _ q_r2) ⟨(ht J),aR⟩),
    ⟨ep 2 J J J (kG 4 vO J J J),
    aR⟩⟩⟩⟩⟩⟩⟩⟩⟩⟩ ?_
   refine ax eC J zm J (ht J) (ht J)<|zo J (kG 7 uu J J J)<|ax eC J DW J (ht J) (ht J)<|zo J (kG 10 vP J J J)<|ax wt J Cp J (ht J) (ht J)<|aq<|au<|zo J (kG 6 vN J J J)<|zo J (kG 6 rq J J J)<|zo J (cd CT J J (u8 oU nU) (.head _) (ht J))<|bv h fun r3 q_r3 h=>iv Si (Ko _ q_r3) ⟨(ht J),aR⟩ J fun l c=>zo J (kG 6 vN J J J)<|zo J (kG 6 rq J J J)<|j8<|jt 38 J<|bI<|ax CT J (Gk oU zl xG) J (ht J) (k7 (ht J))<|aq<|ah<|bv h fun r4 q_r4 h=>?_
   obtain⟨r5,q_r5,h⟩:=bs h
   refine oA 7 [tc (tV (aP b 8)),tc (bR (gm) (({(am.mk n2.Op n2.A n2.B n2.Table r n2.Left n2.Cond r1 n2.Aggs n2.Items r2 n2.Limit)with Cond:=({(am.mk n2.Op n2.A n2.B n2.Table r n2.Left n2.Cond r1 n2.Aggs n2.Items r2 n2.Limit).Cond with Nodes:=r3}:bL)}:am).Aggs)),([2],fun s=>tV (aS ((s.getD 0 pm).h 0).1 ((s.getD 0 pm).h 0).2 r4.length)),tc (tV (aP b 9)),tc (bR (cB) (({(am.mk n2.Op n2.A n2.B n2.Table r n2.Left n2.Cond r1 n2.Aggs n2.Items r2 n2.Limit)with Cond:=({(am.mk n2.Op n2.A n2.B n2.Table r n2.Left n2.Cond r1 n2.Aggs n2.Items r2 n2.Limit).Cond with Nodes:=r3}:bL)}:am).Items)),([5],fun s=>tV (aS ((s.getD 0 pm).h 0).1 ((s.getD 0 pm).h 0).2 r5.length)),tc (tV (aP b 8))] [false,false,true,false,false,true,false] [fun _=>[bx aL 71 b ({(am.mk n2.Op n2.A n2.B n2.Table r n2.Left n2.Cond r1 n2.Aggs n2.Items r2 n2.Limit)with Cond:=({(am.mk n2.Op n2.A n2.B n2.Table r n2.Left n2.Cond r1 n2.Aggs n2.Items r2 n2.Limit).Cond with Nodes:=r3}:bL)}:am),d5 bP 80 l c r3,bx aL 71 b1 IS],fun sg=>[fq gm 51 ((sg 2).h 0).1 ((sg 2).h 0).2 r4,bx aL 71 b ({(am.mk n2.Op n2.A n2.B n2.Table r n2.Left n2.Cond r1 n2.Aggs n2.Items r2 n2.Limit)with Cond:=({(am.mk n2.Op n2.A n2.B n2.Table r n2.Left n2.Cond r1 n2.Aggs n2.Items r2 n2.Limit).Cond with Nodes:=r3}:bL)}:am),d5 bP 80 l c r3,bx aL 71 b1 IS],fun sg=>[fq cB 49 ((sg 5).h 0).1 ((sg 5).h 0).2 r5,fq gm 51 ((sg 2).h 0).1 ((sg 2).h 0).2 r4,bx aL 71 b ({(am.mk n2.Op n2.A n2.B n2.Table r n2.Left n2.Cond r1 n2.Aggs n2.Items r2 n2.Limit)with Cond:=({(am.mk n2.Op n2.A n2.B n2.Table r n2.Left n2.Cond r1 n2.Aggs n2.Items r2 n2.Limit).Cond with Nodes:=r3}:bL)}:am),d5 bP 80 l c r3,bx aL 71 b1 IS]] J mixed J J J J J
    ⟨⟨[⟨2,fun _=>tV (aP b 0),none⟩],_,0,0,J,⟨(fun _=>J),aR⟩,J,J,J,J,J,fun _ sg _ _=>aB J (kG 8 s5 J J J)⟩,
    ⟨⟨[⟨41,fun _=>tV (aP b 8),some 0⟩],_,0,0,J,⟨(fun _=>J),aR⟩,J,J,J,J,J,ze (fun sg=>aB J (cd DL J J qn (.head _) (ht J)))⟩,
    ⟨⟨[⟨42,fun _=>tD (hM gm) (({(am.mk n2.Op n2.A n2.B n2.Table r n2.Left n2.Cond r1 n2.Aggs n2.Items r2 n2.Limit)with Cond:=({(am.mk n2.Op n2.A n2.B n2.Table r n2.Left n2.Cond r1 n2.Aggs n2.Items r2 n2.Limit).Cond with Nodes:=r3}:bL)}:am).Aggs),some 1⟩],_,J,⟨(fun _=>J),aR⟩,J,J,J,fun sg=>eI J (GJ (xs:=[.tmp 42]) (ts:=[tD (hM gm) (({(am.mk n2.Op n2.A n2.B n2.Table r n2.Left n2.Cond r1 n2.Aggs n2.Items r2 n2.Limit)with Cond:=({(am.mk n2.Op n2.A n2.B n2.Table r n2.Left n2.Cond r1 n2.Aggs n2.Items r2 n2.Limit).Cond with Nodes:=r3}:bL)}:am).Aggs)]) aaN (RN _ q_r4) ⟨(ht J),aR⟩)⟩,
    ⟨⟨[⟨2,fun _=>tV (aP b 0),none⟩],_,0,1,J,⟨(fun _=>J),aR⟩,J,J,J,J,J,fun _ sg _ _=>aB J (kG 9 s4 J J J)⟩,
    ⟨⟨[⟨44,fun _=>tV (aP b 9),some 3⟩],_,0,1,J,⟨(fun _=>J),aR⟩,J,J,J,J,J,Fu (fun sg=>aB J (cd CS J J oT (.head _) (ht J))) (ze (fun sg=>aB J (cd CS J J oT (.tail _ (.head _)) (ht J))))⟩,
    ⟨⟨[⟨45,fun _=>tD (hM cB) (({(am.mk n2.Op n2.A n2.B n2.Table r n2.Left n2.Cond r1 n2.Aggs n2.Items r2 n2.Limit)with Cond:=({(am.mk n2.Op n2.A n2.B n2.Table r n2.Left n2.Cond r1 n2.Aggs n2.Items r2 n2.Limit).Cond with Nodes:=r3}:bL)}:am).Items),some 4⟩],_,J,⟨(fun _=>J),aR⟩,J,J,J,fun sg=>eI J (GJ (xs:=[.tmp 45]) (ts:=[tD (hM cB) (({(am.mk n2.Op n2.A n2.B n2.Table r n2.Left n2.Cond r1 n2.Aggs n2.Items r2 n2.Limit)with Cond:=({(am.mk n2.Op n2.A n2.B n2.Table r n2.Left n2.Cond r1 n2.Aggs n2.Items r2 n2.Limit).Cond with Nodes:=r3}:bL)}:am).Items)]) aaM (RM _ q_r5) ⟨(ht J),aR⟩)⟩,
    ⟨⟨[⟨2,fun _=>tV (aP b 0),none⟩],_,1,2,J,⟨(fun _=>J),aR⟩,J,J,J,J,J,fun _ sg _ _=>aB J (kG 8 s5 J J J)⟩,
    aR⟩⟩⟩⟩⟩⟩⟩ (fun sg=>?_)
   refine(show RG _ _ _ _ [fq cB 49 ((sg 5).h 0).1 ((sg 5).h 0).2 r5,fq gm 51 ((sg 2).h 0).1 ((sg 2).h 0).2 r4,bx aL 71 b ({(am.mk n2.Op n2.A n2.B n2.Table r n2.Left n2.Cond r1 n2.Aggs n2.Items r2 n2.Limit)with Cond:=({(am.mk n2.Op n2.A n2.B n2.Table r n2.Left n2.Cond r1 n2.Aggs n2.Items r2 n2.Limit).Cond with Nodes:=r3}:bL)}:am),d5 bP 80 l c r3,bx aL 71 b1 IS] _ from ?_);refine gX<|zL DL J (zh _ _) J (ht J) (Rh (ht J))<|zo J (kG 9 s4 J J J)<|zL CS J (vx _ _ _) J (ht J) (Rh (ht J))<|aq<|ah<|au<|zo J (kG 8 s5 J J J)<|zo J (qi DL sY (.head _) J (ht J))<|zo J (io z6 (.tail _ (.tail _ (.head _))) (ht J))<|zo J (bJ hI)<|aq<|ay<|n7 (.tail _ (.tail _ (.head _))) fun hN=>bG<|pg<|pU<|iF<|qA<|qA<|pg ?_;refine aT (Bg (Z:=fun ls i n3 l1 c1 l2 c2=>(r4.drop i=ls)∧mN ls i n3=some R) (Of:=fun _ i n3 l1 c1 l2 c2=>[bx aL 71 b1 IS,bx kS 71 b (nS n3 (aS l1 c1 n3.Aggs.length) (aS l2 c2 n3.Items.length)),fq gm 51 l1 c1 n3.Aggs,fq cB 49 l2 c2 n3.Items]) (Gf:=fun _ i n3 l1 c1 l2 c2=>[(2,tV (aP b 0)),(4,tV (aP b1 0)),(51,kg r4),(52,bH (i:Int))]) (fun i n3 l1 c1 l2 c2 h=>?_) (fun e tl ih i n3 l1 c1 l2 c2 h=>?_) r4 0 ({({({(am.mk n2.Op n2.A n2.B n2.Table r n2.Left n2.Cond r1 n2.Aggs n2.Items r2 n2.Limit)with Cond:=({(am.mk n2.Op n2.A n2.B n2.Table r n2.Left n2.Cond r1 n2.Aggs n2.Items r2 n2.Limit).Cond with Nodes:=r3}:bL)}:am)with Aggs:=r4}:am)with Items:=r5}:am) ((sg 2).h 0).1 ((sg 2).h 0).2 ((sg 5).h 0).1 ((sg 5).h 0).2 ⟨J,h⟩) (bt J)
   ·obtain⟨hx,h⟩:=h
    refine aC<|au<|zo J (fG J J)<|aq<|ah<|bA (ht J) (dC hx)<|bu ?_;refine ai (ai (aN ?_));refine av<|ah<|au<|zo rfl (kG 9 s4 rfl rfl rfl)<|zo rfl (qi CS sX (.tail _ (.head _)) rfl (ht rfl))<|zo rfl (io Bn (.tail _ (.tail _ (.tail _ (.head _)))) (ht rfl))<|zo rfl (bJ hI)<|aq<|ay<|n7 (.tail _ (.tail _ (.tail _ (.head _)))) fun hN1=>bG ?_;refine aT (Bg (Z:=fun ls1 i1 n4 l3 c3 l4 c4=>(n3.Items.drop i1=ls1)∧mM ls1 i1 n4=some R) (Of:=fun _ i1 n4 l3 c3 l4 c4=>[bx aL 71 b1 IS,bx kS 71 b (nS n4 (aS l3 c3 n4.Aggs.length) (aS l4 c4 n4.Items.length)),fq gm 51 l3 c3 n4.Aggs,fq cB 49 l4 c4 n4.Items]) (Gf:=fun _ i1 n4 l3 c3 l4 c4=>[(2,tV (aP b 0)),(4,tV (aP b1 0)),(72,kg n3.Items),(73,bH (i1:Int))]) (fun i1 n4 l3 c3 l4 c4 h=>?_) (fun e1 tl1 ih1 i1 n4 l3 c3 l4 c4 h=>?_) n3.Items 0 n3 l1 c1 l2 c2 ⟨J,h⟩) (bt J)
    ·obtain⟨hx1,h⟩:=h
     refine aC<|au<|zo J (fG J J)<|aq<|ah<|bA (ht J) (dC hx1)<|bu ?_;refine ai (ai (aN ?_));refine av<|au<|gX<|j8<|qz<|j8<|zo rfl (Ek (q:=aL) (y:=n4) iQ J J J J (.tail _ (.tail _ (.tail _ (.head _)))) (fun _ _ _ ho h=>A8 (HG ho (.tail _ (.head _))) (HG ho (.head _)) h) (ht J))<|gX<|ax iQ J an J (ht J) (ht J)<|aZ 4 J<|aq<|ak<|bk<|bk<|bk ?_;cases so h;exact iN J iQ J J J
    ·obtain⟨hx1,h⟩:=h
     refine aC<|au<|zo J (fG J J)<|aq<|ah<|bz (ht J) (du hx1)<|dR<|ah<|ay<|au<|aF J<|bm J<|aq<|bv h fun e2 q_e2 h=>bv h fun r6 q_r6 h=>?_
     refine tq 12 (ts:=[tV (aP b 9),qM l4 c4 n4.Items,bH (i1:Int),tV (aP b 9),qM l4 c4 n4.Items,bH (i1:Int),tV (po l4 ((i1:Int).toNat*1+0)),tV (po l4 ((i1:Int).toNat*1+0)),bR (bP) e2.Nodes,bR (bP) r6,tV (po l4 ((i1:Int).toNat*1+0)),tV (po l4 ((i1:Int).toNat*1+0))]) mixed J J J
      ⟨ep 2 J J J (kG 9 s4 J J J),
      ⟨bT 76 0 J J J (qi CS sX (.tail _ (.head _)) J (ht J)),
      ⟨ep 6 J J J (cD J),
      ⟨ep 2 J J J (kG 9 s4 J J J),
      ⟨bT 79 3 J J J (qi CS sX (.tail _ (.head _)) J (ht J)),
      ⟨ep 6 J J J (cD J),
      ⟨dv 80 4 81 5 J J J J (ca Bn mJ (.tail _ (.tail _ (.tail _ (.head _)))) (ht J) (ht J) q_e2),
      ⟨bT 82 6 J J J (m4 (o:=(i1:Int).toNat*1+0) (n:=(i1:Int).toNat*1+0) rq J (.tail _ (.tail _ (.tail _ (.head _)))) q_e2 (ht J) J),
      ⟨bT 83 7 J J J (fM (r:=cB) (i:=(i1:Int)) (foff:=0) CT J J nU J (.tail _ (.tail _ (.tail _ (.head _)))) q_e2 (ht J)),
      ⟨bT 84 8 J J J (aA Si (Og _ q_r6) ⟨(ht J),aR⟩),
      ⟨dv 77 1 78 2 J J J J (ca Bn mJ (.tail _ (.tail _ (.tail _ (.head _)))) (ht J) (ht J) q_e2),
      ⟨bT 86 10 J J J (m4 (o:=(i1:Int).toNat*1+0) (n:=(i1:Int).toNat*1+0) rq J (.tail _ (.tail _ (.tail _ (.head _)))) q_e2 (ht J) J),
      aR⟩⟩⟩⟩⟩⟩⟩⟩⟩⟩⟩⟩ ?_
     refine qz<|bv h fun st q_st h=>pf CT J xG J q_e2 (so q_st) (ht J) (ht J)<|fy (jx (so q_st)) 77 J<|fy (jx (so q_st)) 80 J<|E4 (O' :=[fq cB 49 l4 c4 st,bx aL 71 b1 IS,bx kS 71 b (nS n4 (aS l3 c3 n4.Aggs.length) (aS l4 c4 st.length)),fq gm 51 l3 c3 n4.Aggs]) (by rw [jx (so q_st)])<|aQ<|ap<|av<|aw<|zo rfl (mI (cQ hx1 hN1) rfl)<|aF rfl<|aQ<|cN<|cN<|cN ?_;exact bg (aT (ih1 (i1+1) ({n4 with Items:=st}:am) l3 c3 l4 c4 ⟨cP hx1,h⟩) (bt J))
   ·obtain⟨hx,h⟩:=h
    refine aC<|au<|zo J (fG J J)<|aq<|ah<|bz (ht J) (du hx)<|dR<|ah<|ay<|au<|aF J<|bm J<|aq<|bv h fun e3 q_e3 h=>bv h fun r7 q_r7 h=>?_
    refine tq 14 (ts:=[tV (aP b 8),qM l1 c1 n3.Aggs,bH (i:Int),tV (aP b 8),qM l1 c1 n3.Aggs,bH (i:Int),tV (po l1 ((i:Int).toNat*2+0)),tV (po l1 ((i:Int).toNat*2+1)),tV (po l1 ((i:Int).toNat*2+1)),bR (bP) e3.Arg.Nodes,bR (bP) r7,tV (po l1 ((i:Int).toNat*2+0)),tV (po l1 ((i:Int).toNat*2+1)),tV (po l1 ((i:Int).toNat*2+1))]) mixed J J J
     ⟨ep 2 J J J (kG 8 s5 J J J),
     ⟨bT 55 0 J J J (qi DL sY (.tail _ (.head _)) J (ht J)),
     ⟨ep 5 J J J (cD J),
     ⟨ep 2 J J J (kG 8 s5 J J J),
     ⟨bT 58 3 J J J (qi DL sY (.tail _ (.head _)) J (ht J)),
     ⟨ep 5 J J J (cD J),
     ⟨dv 59 4 60 5 J J J J (ca z6 wu (.tail _ (.tail _ (.head _))) (ht J) (ht J) q_e3),
     ⟨bT 61 6 J J J (m4 (o:=(i:Int).toNat*2+0) (n:=(i:Int).toNat*2+1) EL J (.tail _ (.tail _ (.head _))) q_e3 (ht J) J),
     ⟨bT 62 7 J J J (m4 (o:=(i:Int).toNat*2+1) (n:=(i:Int).toNat*2+1) rq J (.tail _ (.tail _ (.head _))) q_e3 (ht J) J),
     ⟨bT 63 8 J J J (fM (r:=gm) (i:=(i:Int)) (foff:=1) CT J J (u8 xj nU) J (.tail _ (.tail _ (.head _))) q_e3 (ht J)),
     ⟨bT 64 9 J J J (aA Si (Og _ q_r7) ⟨(ht J),aR⟩),
     ⟨dv 56 1 57 2 J J J J (ca z6 wu (.tail _ (.tail _ (.head _))) (ht J) (ht J) q_e3),
     ⟨bT 66 11 J J J (m4 (o:=(i:Int).toNat*2+0) (n:=(i:Int).toNat*2+1) EL J (.tail _ (.tail _ (.head _))) q_e3 (ht J) J),
     ⟨bT 67 12 J J J (m4 (o:=(i:Int).toNat*2+1) (n:=(i:Int).toNat*2+1) rq J (.tail _ (.tail _ (.head _))) q_e3 (ht J) J),
     aR⟩⟩⟩⟩⟩⟩⟩⟩⟩⟩⟩⟩⟩⟩ ?_
    refine gX<|bv h fun st1 q_st1 h=>pf CT J (Gk xj Ji xG) J q_e3 (so q_st1) (ht J) (ht J)<|fy (jx (so q_st1)) 56 J<|fy (jx (so q_st1)) 59 J<|E4 (O' :=[fq gm 51 l1 c1 st1,bx aL 71 b1 IS,bx kS 71 b (nS n3 (aS l1 c1 st1.length) (aS l2 c2 n3.Items.length)),fq cB 49 l2 c2 n3.Items]) (by rw [jx (so q_st1)])<|aQ<|ap<|av<|aw<|zo rfl (mI (cQ hx hN) rfl)<|aF rfl<|aQ<|cN<|bE<|cN<|cN ?_;exact bg (aT (ih (i+1) ({n3 with Aggs:=st1}:am) l1 c1 l2 c2 ⟨cP hx,h⟩) (bt J))
  ·skip
   refine au<|zo J (kG 2 rp J J J)<|zo J (cd cv J J kp (.head _) (ht J))<|zo J (hT (ht J) hI)<|aq<|cU h J (fun h=>?_) (fun h=>?_)
   ·refine aw<|zo J (kG 2 rp J J J)<|zo J (cd cv J J kp (.head _) (ht J))<|aF J<|zo J (nc (ht J) (ht J))<|zo J (kG 2 rp J J J)<|ax cv J zn J (ht J) (ht J)<|aQ ?_;exact cM (K1 (am.mk n1.Op n1.A (IntKind.i64.wrap (n1.B+by1)) n1.Table n1.Kinds n1.Left n1.Cond n1.Keys n1.Aggs n1.Items n1.Order n1.Limit) h) (bt J)
   ·refine bw ?_;exact cM (K1 n1 h) (bt J)
 ·skip
  refine au<|zo J (kG 1 jR J J J)<|zo J (cd cv J J dX (.tail _ (.head _)) (ht J))<|zo J (hT (ht J) hI)<|aq<|cU h J (fun h=>?_) (fun h=>?_)
  ·refine aw<|zo J (kG 1 jR J J J)<|zo J (cd cv J J dX (.tail _ (.head _)) (ht J))<|aF J<|zo J (nc (ht J) (ht J))<|zo J (kG 1 jR J J J)<|bI<|ax cv J DX J (ht J) (ht J)<|aQ ?_;exact cM (K (am.mk n.Op (IntKind.i64.wrap (n.A+by1)) n.B n.Table n.Kinds n.Left n.Cond n.Keys n.Aggs n.Items n.Order n.Limit) h) (bt J)
  ·refine bw<|bE ?_;exact cM (K n h) (bt J)

theorem XJ(l:bU)(place:Int){R:bU×Int}(h:sT l place=some R):aU aO 60 [tD dO l,bH place] (tT [tD dO R.1,bH R.2]):=by
 refine aU.of Tryz.func60 J J J fun w0 S0=>au<|zo J (jw J)<|bc (r:=dO) (x:=IU) qQ (fun _=>sw _) J fun b=>zo J (cq)<|aq<|au<|zo J (bB qQ J J)<|bv h fun r q_r h=>zo J (aA Yo (MC _ q_r) ⟨(ht J),aR⟩)<|aF J<|zo J (hZ J J)<|zo J (hZ J J)<|zo J (hZ J J)<|bm J<|bm J<|bm J<|aq<|ah<|ay ?_;refine au<|aF J<|zo J (ei (ht J))<|bm J<|aq<|cU h J (fun h=>?_) (fun h=>?_)
 ·refine au<|zo J (ci (y:=IU) qQ Xy sw (J))<|ax qQ J an J (ht J) (ht J)<|zo J (cq)<|aq<|ak ?_;refine aD (ae ?_);refine bn 4 J ?_;cases so h;exact bS J J ⟨br qQ J J J,aX J,aR⟩
 ·refine au<|aF J<|zo J (fa (ht J) hI)<|aF J<|gI J J (fun hg=>cD J)<|gI J J (fun hg=>cY uw nF J J)<|gI J J (fun hg=>bM Fw J J (bD J hg))<|gI J J (fun hg=>dW z7 (bD J hg))<|gI J J (fun hg=>hT (bD J hg) (bD J hg))<|zo J (yr J J)<|bm J<|aq<|cU h J (fun h=>?_) (fun h=>?_)
  ·refine au<|zo J (ci (y:=IU) qQ Xy sw (J))<|ax qQ J an J (ht J) (ht J)<|zo J (cq)<|aq<|ak ?_;refine aD (ae ?_);refine bn 4 J ?_;cases so h;exact bS J J ⟨br qQ J J J,aX J,aR⟩
  ·refine bw<|ap<|av<|au<|bN true aL 71<|bc (r:=oM) (x:=qj IU (aS none 0 (([]:List am).length))) qQ Li J fun b1=>aq<|ah<|au<|aF J<|zo J (HM (ht J))<|zo J (cY tZ AP J J)<|zo J (bB eC J J)<|aF J<|bv h fun e q_e h=>zo J (lq g9 cv J J J q_e)<|zo J (bB cv J J)<|bm J<|aq<|ay ?_;refine bG<|iF<|iF<|qA ?_;refine aT (OO (Z:=fun n i out l1 c=>m5 l place e n i out=some R) (Of:=fun i out l1 c=>[bx dO 24 b IU,bx oM 24 b1 (qj out (aS l1 c out.Nodes.length)),d5 aL 71 l1 c out.Nodes]) (Gf:=fun i out l1 c=>[(1,bH place),(2,bK dO l),(4,tV (aP b 0)),(6,bK bj r.1),(9,tV (aP b1 0)),(10,bH i)]) (fun i out l1 c h=>nn h) (fun n ih i out l1 c h=>?_) ge e ({IU with Nodes:=([]:List am)}:bU) none 0 h) (bt J);refine aC<|ah<|au<|aF J<|aF J<|zo J (lL (ht J) (ht J))<|aq<|cU h J (fun h=>?_) (fun h=>?_)
   ·refine dR<|ah<|ay<|bv h fun e1 q_e1 h=>bv h fun r1 q_r1 h=>?_
    refine tq 17 (ts:=[tV (aP b1 0),tO aL l1 c out.Nodes,bK (hM aL) l.Nodes,bR (aL) l.Nodes,bH i,bK aL e1,tD aL e1,bK bj r.1,bK bj r.1,bK nj r.1.first,mf r.1.first,bH place,bK bY e,bH e,bH (IntKind.i64.wrap (0-e)),tD aL r1,bR (aL) ([r1])]) mixed J J J
     ⟨ep 9 J J J (kG 0 uw J J J),
     ⟨bT 44 0 J J J (Pi Fw H4 (.tail _ (.head _)) (.tail _ (.tail _ (.head _))) J (ht J)),
     ⟨ep 2 J J J (cY uw nF J J),
     ⟨bT 46 2 J J J (bB Fw J J),
     ⟨ep 10 J J J (cD J),
     ⟨dv 47 3 48 4 J J J J (lq z7 iQ J J J q_e1),
     ⟨bT 49 5 J J J (bB iQ J J),
     ⟨ep 6 J J J (cD J),
     ⟨bT 51 7 J J J (HM (ht J)),
     ⟨bT 52 8 J J J (cY tZ AP J J),
     ⟨bT 53 9 J J J (bB eC J J),
     ⟨ep 1 J J J (cD J),
     ⟨dv 54 10 55 11 J J J J (lq g9 cv J J J q_e),
     ⟨bT 56 12 J J J (bB cv J J),
     ⟨bT 57 13 J J J (HP (ht J)),
     ⟨dv 50 6 58 14 J J J J (aA abl (Vj _ _ q_r1) ⟨(ht J),(ht J),aR⟩),
     ⟨bT 59 15 J J J (aV (r:=aL) (ys:=[r1]) (xs:=[.tmp 59]) z7 iQ J J J J J ⟨(ht J),aR⟩),
     aR⟩⟩⟩⟩⟩⟩⟩⟩⟩⟩⟩⟩⟩⟩⟩⟩⟩ ?_
    refine gX<|bv h fun l2 q_l2 h=>MU iQ J J J J z7 J J (ht J) (ht J) q_l2 fun l3 c1=>zo J (kG 0 uw J J J)<|gX<|zL Fw J (wT _ _ _) J (ht J) (Rh (Lu (ht J)))<|aQ<|ap<|av<|aw<|aF rfl<|zo rfl (nc (ht rfl) hI)<|bm rfl<|aQ<|bE<|bE<|aK ?_;exact bg (aT (ih (IntKind.i64.wrap (i+(1:Int))) ({out with Nodes:=l2}:bU) l3 c1 h) (bt J))
   ·refine bu ?_;refine ai (ai (aN ?_));refine av<|au<|gX<|zo rfl (Ek (q:=dO) (y:=out) qQ J J J J (.tail _ (.tail _ (.head _))) (fun _ _ _ ho h=>C1 (HG ho (.head _)) h) (ht J))<|bI<|ax qQ J an J (ht J) (ht J)<|zo J (cq)<|aq<|ak<|bn 4 J<|bk<|bk ?_;cases so h;exact bS J J ⟨br qQ J J J,aX J,aR⟩

theorem Ya(l:bU)(b:iJ){R:(List (List ac))×Int}(h:rb l b=some R):aU aO 15 [tD dO l,tD py b] (tT [bR (cK) R.1,bH R.2]):=by
 refine aU.of Tryz.func15 J J J fun w0 S0=>au<|zo J (jw J)<|zo J (jw J)<|zo J (aJ (show aI _ _ _ uj from jA))<|zo J (cq)<|aq<|ah<|au<|zo J (bB qQ J J)<|bv h fun r q_r h=>zo J (aA ZE (RD _ q_r) ⟨(ht J),aR⟩)<|aF J<|zo J (hZ J J)<|zo J (hZ J J)<|bm J<|bm J<|aq<|au ?_;refine aF J<|zo J (tE J)<|aq<|cU h J (fun h=>?_) (fun h=>?_)
 ·refine au<|aF J<|zo J (aJ (show aI _ _ _ uj from jA))<|bm J<|aq<|ak<|ae ?_;cases so h;exact cC J J J
 ·refine dR<|ah<|au<|zo J (bB qQ J J)<|zo J (bB O6 J J)<|bv h fun r1 q_r1 h=>zo J (aA acl (X9 _ _ q_r1) ⟨(ht J),(ht J),aR⟩)<|zo J (ei (ht J))<|aq<|cU h J (fun h=>?_) (fun h=>?_)
  ·refine au<|zo J (aJ (show aI _ _ _ uj from jA))<|zo J (cq)<|aq<|ak<|ae ?_;cases so h;exact cC J J J
  ·refine dR<|au<|zo J (bB O6 J J)<|zo J (ci (r:=rH eD [(1,.slice none 0 0),(2,.slice none 0 0)]) (y:=(⟨b,[],[]⟩:cX)) abA abI (zH WE ⟨J,J,aR⟩) (⟨_,_,_,_,_,J,VT QF J J,J,(ht J),J⟩))<|yi (ht J) J fun b1=>bN true d7 32<|bN true bY 3 ?_;refine(show RG _ _ _ _ [d5 bY 3 none 0 uI,d5 d7 32 none 0 ([]:List (List (List ac))),bx (rH eD [(1,aS none 0 ([]:List (List (List ac))).length),(2,aS none 0 uI.length)]) 96 b1 (⟨b,[],[]⟩:cX)] _ from ?_);refine bm J<|aq<|au<|zM (wv (fun y:(cX→am→Option (((List (List ac))×Int)×cX))=>dS aO o3 (jn b1) pY y)) nh J fun b2=>aF J ?_
   refine pT ((show bO _ _ _ _ (dS aO o3 (jn b1) pY WI)from jF ab9 (ht J) (fun c x R h i=>by
     obtain⟨r,h1,rfl⟩:=vq.1 h
     exact iE (Ob:=fun j=>jn b1 c j) (i:=i) (Zp _ i c _ h1)))) J ?_
   refine eN (γ:=(fun y:(cX→am→Option (((List (List ac))×Int)×cX))=>dS aO o3 (jn b1) pY y)) (y:=WI) Af (ee kM) (ht J) (nE hI) (ht J) fun os=>aF J ?_
   refine pT ((show bO _ _ _ _ (dS aO o3 (jn b1) pY WH)from jF ab8 (ht J) (fun c x R h i=>by
     obtain⟨r,h1,rfl⟩:=vq.1 h
     exact iE (Ob:=fun j=>jn b1 c j) (i:=i) (Zo _ i c _ h1)))) J ?_
   refine eN (γ:=(fun y:(cX→am→Option (((List (List ac))×Int)×cX))=>dS aO o3 (jn b1) pY y)) (y:=WH) Af (ee kM) (ht J) (nE hI) (ht J) fun os1=>aF J ?_
   refine pT ((show bO _ _ _ _ (dS aO o3 (jn b1) pY WM)from jF ab7 (ht J) (fun c x R h i=>by
     obtain⟨r,h1,rfl⟩:=vq.1 h
     exact iE (Ob:=fun j=>jn b1 c j) (i:=i) (Zn _ i c _ h1)))) J ?_
   refine eN (γ:=(fun y:(cX→am→Option (((List (List ac))×Int)×cX))=>dS aO o3 (jn b1) pY y)) (y:=WM) Af (ee kM) (ht J) (nE hI) (ht J) fun os2=>aF J ?_
   refine pT ((show bO _ _ _ _ (dS aO o3 (jn b1) pY WJ)from jF ab6 (ht J) (fun c x R h i=>by
     obtain⟨r,h1,rfl⟩:=vq.1 h
     exact iE (Ob:=fun j=>jn b1 c j) (i:=i) (Zm _ i c _ h1)))) J ?_
   refine eN (γ:=(fun y:(cX→am→Option (((List (List ac))×Int)×cX))=>dS aO o3 (jn b1) pY y)) (y:=WJ) Af (ee kM) (ht J) (nE hI) (ht J) fun os3=>aF J ?_
   refine pT ((show bO _ _ _ _ (dS aO o3 (jn b1) pY WN)from jF ab5 (ht J) (fun c x R h i=>by
     obtain⟨r,h1,rfl⟩:=vq.1 h
     exact iE (Ob:=fun j=>jn b1 c j) (i:=i) (Zl _ i c _ h1)))) J ?_
   refine eN (γ:=(fun y:(cX→am→Option (((List (List ac))×Int)×cX))=>dS aO o3 (jn b1) pY y)) (y:=WN) Af (ee kM) (ht J) (nE hI) (ht J) fun os4=>aF J ?_
   refine pT ((show bO _ _ _ _ (dS aO o3 (jn b1) pY WO)from jF ab4 (ht J) (fun c x R h i=>by
     obtain⟨r,h1,rfl⟩:=vq.1 h
     exact iE (Ob:=fun j=>jn b1 c j) (i:=i) (Zk _ i c _ h1)))) J ?_
   refine eN (γ:=(fun y:(cX→am→Option (((List (List ac))×Int)×cX))=>dS aO o3 (jn b1) pY y)) (y:=WO) Af (ee kM) (ht J) (nE hI) (ht J) fun os5=>aF J ?_
   refine pT ((show bO _ _ _ _ (dS aO o3 (jn b1) pY WL)from jF ab3 (ht J) (fun c x R h i=>by
     obtain⟨r,h1,rfl⟩:=vq.1 h
     exact iE (Ob:=fun j=>jn b1 c j) (i:=i) (Zj _ i c _ h1)))) J ?_
   refine eN (γ:=(fun y:(cX→am→Option (((List (List ac))×Int)×cX))=>dS aO o3 (jn b1) pY y)) (y:=WL) Af (ee kM) (ht J) (nE hI) (ht J) fun os6=>aF J ?_
   refine pT ((show bO _ _ _ _ (dS aO o3 (jn b1) pY WK)from jF ab2 (ht J) (fun c x R h i=>by
     obtain⟨r,h1,rfl⟩:=vq.1 h
     exact iE (Ob:=fun j=>jn b1 c j) (i:=i) (Zi _ i c _ h1)))) J ?_
   refine eN (γ:=(fun y:(cX→am→Option (((List (List ac))×Int)×cX))=>dS aO o3 (jn b1) pY y)) (y:=WK) Af (ee kM) (ht J) (nE hI) (ht J) fun os7=>aF J<|bm J<|aq<|ah<|au<|zo J (cY uw nF J J)<|zo J (bB Fw J J)<|zo J (iw z7 J)<|zo J (bJ hI)<|aq<|ay<|ba (k:=52) J fun hN=>bG<|iF<|qA<|pg<|pg ?_;refine aT (Bg (Z:=fun ls i ob l1 c l2 c1=>(l.Nodes.drop i=ls)∧f9 l ls i ob=some R) (Of:=fun _ i ob l1 c l2 c1=>[ni (wv (fun y:(cX→am→Option (((List (List ac))×Int)×cX))=>dS aO o3 (jn b1) pY y)) nh b2 none os7 Qm,bx (rH eD [(1,aS l1 c ob.rows.length),(2,aS l2 c1 ob.width.length)]) 96 b1 ob,d5 d7 32 l1 c ob.rows,d5 bY 3 l2 c1 ob.width]) (Gf:=fun _ i ob l1 c l2 c1=>[(2,bK dO l),(8,tV (aP b1 0)),(9,tV (qk b2)),(52,bR (aL) l.Nodes),(53,kg l.Nodes),(54,bH (i:Int))]) (fun i ob l1 c l2 c1 h=>?_) (fun e tl ih i ob l1 c l2 c1 h=>?_) l.Nodes 0 (⟨b,[],[]⟩:cX) none 0 none 0 ⟨J,h⟩) (bt J)
   ·obtain⟨hx,h⟩:=h
    refine aC<|au<|zo J (fG J J)<|aq<|ah<|bA (ht J) (dC hx)<|bu ?_;refine ai (ai (aN ?_));refine av<|ah<|bv h fun e1 q_e1 h=>?_
    refine cJ (ts:=[_,_,_,_,_,_,_,_,_,_,_,_,_,_]) mixed J J
     ⟨ep 8 J J J (cD J),
     ⟨bT 119 0 J J J (dG (ht J)),
     ⟨bT 120 1 J J J (kG 1 qq J J J),
     ⟨bT 121 2 J J J (di yw J (.tail _ (.head _)) (.tail _ (.tail _ (.head _))) (ht J)),
     ⟨ep 8 J J J (cD J),
     ⟨bT 123 4 J J J (dG (ht J)),
     ⟨bT 124 5 J J J (kG 1 qq J J J),
     ⟨bT 125 6 J J J (di yw J (.tail _ (.head _)) (.tail _ (.tail _ (.head _))) (ht J)),
     ⟨bT 126 7 J J J (dW p8 (k7 (ht J))),
     ⟨bT 127 8 J J J (gK (ht J) hI),
     ⟨dv 122 3 128 9 J J J J (bp p8 hJ J (k7 (ht J)) (ht J) q_e1),
     ⟨bT 129 10 J J J (bB hJ J J),
     ⟨bT 130 11 J J J (tA J),
     ⟨OX J J (cq),
     aR⟩⟩⟩⟩⟩⟩⟩⟩⟩⟩⟩⟩⟩⟩ ?_
    refine av<|ak<|bk<|bk<|bk<|bk ?_;cases so h;exact cC J J J
   ·obtain⟨hx,h⟩:=h
    refine aC<|au<|zo J (fG J J)<|aq<|ah<|bz (ht J) (du hx)<|dR<|ah<|ay<|au<|aF J<|zo J (lq z7 iQ J J J (cW hx))<|zo J (bB iQ J J)<|bc (r:=aL) (x:=IS) iQ (fun _=>pq _) J fun b3=>bm J<|ax iQ J an J (ht J) (ht J)<|aZ 11 J<|aq<|ah ?_;refine aw<|aF J<|zo J (cY BO qp J J)<|zo J (bB cv J J)<|zo J (Mg (γ:=(fun y:(cX→am→Option (((List (List ac))×Int)×cX))=>dS aO o3 (jn b1) (fun(x:(List (List ac))×Int)=>tT [tD d7 x.1,tD bY x.2]) y)) (z:=fun _ _=>none) Af (ee kM) abv (fun _=>Gc) (.head _) (ht J) (nE (ht J)))<|zo J (bB iQ J J)<|bv h fun r2 q_r2 h=>zN (EffOK.fr3 (EffOK.fr3 (EffOK.fr3 (A1 (args:=o3) (Ob:=jn b1) (res:=pY) (f:=((oR Qm e.Op).getD (fun _ _=>none))) (x:=ob) (y:=((e):am)) (R:=r2) (i:=(VW [(l1,c),(l2,c1)])) (xs:=[.tmp 64]) _ J (ht J) q_r2 ⟨(ht J),aR⟩ (fun _=>J))))) J fun i1=>?_;refine(show RG _ _ _ _ [bx (rH eD [(1,aS (i1.h 0).1 (i1.h 0).2 r2.2.rows.length),(2,aS (i1.h 1).1 (i1.h 1).2 r2.2.width.length)]) 96 b1 r2.2,d5 d7 32 (i1.h 0).1 (i1.h 0).2 r2.2.rows,d5 bY 3 (i1.h 1).1 (i1.h 1).2 r2.2.width,ni (wv (fun y:(cX→am→Option (((List (List ac))×Int)×cX))=>dS aO o3 (jn b1) pY y)) nh b2 none os7 Qm] ((65,tT [bR (cK) r2.1.1,bH r2.1.2])::_)from ?_);refine aF J<|zo J (hZ J J)<|zo J (hZ J J)<|bm J<|bm J<|aq ?_;refine ke (Z:=fun e2=>nL l (f9 l tl) i e r2 e2=some R) (Of:=fun e2=>[ni (wv (fun y:(cX→am→Option (((List (List ac))×Int)×cX))=>dS aO o3 (jn b1) pY y)) nh b2 none os7 Qm,bx (rH eD [(1,aS (i1.h 0).1 (i1.h 0).2 r2.2.rows.length),(2,aS (i1.h 1).1 (i1.h 1).2 r2.2.width.length)]) 96 b1 r2.2,d5 d7 32 (i1.h 0).1 (i1.h 0).2 r2.2.rows,d5 bY 3 (i1.h 1).1 (i1.h 1).2 r2.2.width]) (Gf:=fun e2=>[(2,bK dO l),(8,tV (aP b1 0)),(9,tV (qk b2)),(10,bH (i:Int)),(11,bK aL e),(12,bR (cK) r2.1.1),(13,bH e2),(52,bR (aL) l.Nodes),(53,kg l.Nodes),(54,bH (i:Int))]) (fun e2 h=>?_) (fun K=>?_)
    ·skip
     refine ah<|au<|aF J<|zo J (tE J)<|aq<|cU h J (fun h=>?_) (fun h=>?_)
     ·refine au<|aF J<|zo J (aJ (show aI _ _ _ uj from jA))<|bm J<|aq<|ak ?_;refine ae (aD (ae (ae (aD (ae ?_)))));refine bk<|bk<|bk<|bk ?_;cases so h;exact cC J J J
     ·refine dR ?_;refine ke (Z:=fun rows=>nK l (f9 l tl) i r2 rows=some R) (Of:=fun rows=>[ni (wv (fun y:(cX→am→Option (((List (List ac))×Int)×cX))=>dS aO o3 (jn b1) pY y)) nh b2 none os7 Qm,bx (rH eD [(1,aS (i1.h 0).1 (i1.h 0).2 r2.2.rows.length),(2,aS (i1.h 1).1 (i1.h 1).2 r2.2.width.length)]) 96 b1 r2.2,d5 d7 32 (i1.h 0).1 (i1.h 0).2 r2.2.rows,d5 bY 3 (i1.h 1).1 (i1.h 1).2 r2.2.width]) (Gf:=fun rows=>[(2,bK dO l),(8,tV (aP b1 0)),(9,tV (qk b2)),(10,bH (i:Int)),(12,bR (cK) rows),(52,bR (aL) l.Nodes),(53,kg l.Nodes),(54,bH (i:Int))]) (fun rows h=>?_) (fun K1=>?_)
      ·skip
       refine au<|zo J (bB qQ J J)<|aF J<|bv h fun r3 q_r3 h=>zo J (aA ab0 (XJ _ _ q_r3) ⟨(ht J),(ht J),aR⟩)<|aF J<|zo J (hZ J J)<|zo J (hZ J J)<|bc (r:=dO) (x:=IU) qQ (fun _=>sw _) J fun b4=>ax qQ J an J (ht J) (ht J)<|aZ 14 J<|bm J<|aq<|au<|zo J (bB qQ J J)<|bv h fun r4 q_r4 h=>zo J (aA acj (XX _ q_r4) ⟨(ht J),aR⟩)<|aF J<|zo J (hZ J J)<|zo J (hZ J J)<|bm J ?_;refine bm J<|aq<|bv h fun l3 q_l3 h=>bv h fun l4 q_l4 h=>?_
       refine oA 20 [tc (tV (aP b1 0)),tc (tV (aP b1 0)),tc (tV (aP b1 0)),tc (tV (aP b1 0)),tc (tV (aP b1 1)),tc (tO d7 (i1.h 0).1 (i1.h 0).2 r2.2.rows),tc (bR (cK) rows),tc (bR (d7) ([rows])),([8],fun s=>tO d7 ((s.getD 0 pm).h 0).1 ((s.getD 0 pm).h 0).2 l3),tc (tV (aP b1 0)),tc (tV (aP b1 0)),tc (tV (aP b1 2)),tc (tO bY (i1.h 1).1 (i1.h 1).2 r2.2.width),tc (mf r4.1),tc (kg r4.1),tc (mf ([(r4.1.length:Int)])),([16],fun s=>tO bY ((s.getD 0 pm).h 0).1 ((s.getD 0 pm).h 0).2 l4),tc (tV (aP b1 0)),tc (tV (aP b1 1)),tc (CU)] [false,false,false,false,false,false,false,false,true,false,false,false,false,false,false,false,true,false,false,true] [fun _=>[ni (wv (fun y:(cX→am→Option (((List (List ac))×Int)×cX))=>dS aO o3 (jn b1) pY y)) nh b2 none os7 Qm,bx (rH eD [(1,aS (i1.h 0).1 (i1.h 0).2 r2.2.rows.length),(2,aS (i1.h 1).1 (i1.h 1).2 r2.2.width.length)]) 96 b1 r2.2,d5 d7 32 (i1.h 0).1 (i1.h 0).2 r2.2.rows,d5 bY 3 (i1.h 1).1 (i1.h 1).2 r2.2.width],fun sg=>[d5 d7 32 ((sg 8).h 0).1 ((sg 8).h 0).2 l3,ni (wv (fun y:(cX→am→Option (((List (List ac))×Int)×cX))=>dS aO o3 (jn b1) pY y)) nh b2 none os7 Qm,bx (rH eD [(1,aS (i1.h 0).1 (i1.h 0).2 r2.2.rows.length),(2,aS (i1.h 1).1 (i1.h 1).2 r2.2.width.length)]) 96 b1 r2.2,d5 bY 3 (i1.h 1).1 (i1.h 1).2 r2.2.width],fun sg=>[d5 bY 3 ((sg 16).h 0).1 ((sg 16).h 0).2 l4,d5 d7 32 ((sg 8).h 0).1 ((sg 8).h 0).2 l3,ni (wv (fun y:(cX→am→Option (((List (List ac))×Int)×cX))=>dS aO o3 (jn b1) pY y)) nh b2 none os7 Qm,bx (rH eD [(1,aS (i1.h 0).1 (i1.h 0).2 r2.2.rows.length),(2,aS (i1.h 1).1 (i1.h 1).2 r2.2.width.length)]) 96 b1 r2.2],fun sg=>[bx (rH eD [(1,aS ((sg 8).h 0).1 ((sg 8).h 0).2 l3.length),(2,aS (i1.h 1).1 (i1.h 1).2 r2.2.width.length)]) 96 b1 ({r2.2 with rows:=l3}:cX),d5 bY 3 ((sg 16).h 0).1 ((sg 16).h 0).2 l4,d5 d7 32 ((sg 8).h 0).1 ((sg 8).h 0).2 l3,ni (wv (fun y:(cX→am→Option (((List (List ac))×Int)×cX))=>dS aO o3 (jn b1) pY y)) nh b2 none os7 Qm]] J mixed J J J J J
        ⟨⟨[⟨8,fun _=>tV (aP b1 0),none⟩],_,0,2,J,⟨(fun _=>J),aR⟩,J,J,J,J,J,fun _ sg _ _=>aB J (cD J)⟩,
        ⟨⟨[⟨8,fun _=>tV (aP b1 0),none⟩],_,0,3,J,⟨(fun _=>J),aR⟩,J,J,J,J,J,fun _ sg _ _=>aB J (cD J)⟩,
        ⟨⟨[⟨8,fun _=>tV (aP b1 0),none⟩],_,0,0,J,⟨(fun _=>J),aR⟩,J,J,J,J,J,fun _ sg _ _=>aB J (cD J)⟩,
        ⟨⟨[⟨99,fun _=>tV (aP b1 0),some 2⟩],_,0,0,J,⟨(fun _=>J),aR⟩,J,J,J,J,J,fun _ sg _ _=>aB J (dG (ht J))⟩,
        ⟨⟨[⟨100,fun _=>tV (aP b1 0),some 3⟩],_,0,0,J,⟨(fun _=>J),aR⟩,J,J,J,J,J,fun _ sg _ _=>aB J (kG 1 qq J J J)⟩,
        ⟨⟨[⟨101,fun _=>tV (aP b1 1),some 4⟩],_,0,0,J,⟨(fun _=>J),aR⟩,J,J,J,J,J,ze (fun sg=>aB J (di yw J (.tail _ (.head _)) (.tail _ (.tail _ (.head _))) (ht J)))⟩,
        ⟨⟨[⟨12,fun _=>tD d7 rows,none⟩],_,0,0,J,⟨(fun _=>J),aR⟩,J,J,J,J,J,fun _ sg _ _=>aB J (cD J)⟩,
        ⟨⟨[⟨103,fun _=>tD d7 rows,some 6⟩],_,0,0,J,⟨(fun _=>J),aR⟩,J,J,J,J,J,fun _ sg _ _=>aB J (aV (r:=d7) (ys:=[rows]) (xs:=[.tmp 103]) p8 hJ J J J J J ⟨(ht J),aR⟩)⟩,
        ⟨⟨[⟨102,fun _=>tO d7 (i1.h 0).1 (i1.h 0).2 r2.2.rows,some 5⟩,⟨104,fun _=>tD (hM d7) ([rows]),some 7⟩],_,J,⟨(fun _=>J),(fun _=>J),aR⟩,J,J,J,fun sg=>eI J (EffOK.fr2 (t7 hJ J J J J p8 J (ht J) (ht J) q_l3))⟩,
        ⟨⟨[⟨8,fun _=>tV (aP b1 0),none⟩],_,0,1,J,⟨(fun _=>J),aR⟩,J,J,J,J,J,fun _ sg _ _=>aB J (cD J)⟩,
        ⟨⟨[⟨106,fun _=>tV (aP b1 0),some 9⟩],_,0,1,J,⟨(fun _=>J),aR⟩,J,J,J,J,J,fun _ sg _ _=>aB J (dG (ht J))⟩,
        ⟨⟨[⟨107,fun _=>tV (aP b1 0),some 10⟩],_,0,1,J,⟨(fun _=>J),aR⟩,J,J,J,J,J,fun _ sg _ _=>aB J (kG 2 Mu J J J)⟩,
        ⟨⟨[⟨108,fun _=>tV (aP b1 2),some 11⟩],_,0,1,J,⟨(fun _=>J),aR⟩,J,J,J,J,J,Fu (fun sg=>aB J (di eC J (.tail _ (.head _)) (.tail _ (.tail _ (.tail _ (.head _)))) (ht J))) (ze (fun sg=>aB J (di eC J (.tail _ (.tail _ (.head _))) (.tail _ (.tail _ (.tail _ (.head _)))) (ht J))))⟩,
        ⟨⟨[⟨16,fun _=>tD wN r4.1,none⟩],_,0,1,J,⟨(fun _=>J),aR⟩,J,J,J,J,J,fun _ sg _ _=>aB J (cD J)⟩,
        ⟨⟨[⟨110,fun _=>tD wN r4.1,some 13⟩],_,0,1,J,⟨(fun _=>J),aR⟩,J,J,J,J,J,fun _ sg _ _=>aB J (iw g9 J)⟩,
        ⟨⟨[⟨111,fun _=>tD bY (r4.1.length:Int),some 14⟩],_,0,1,J,⟨(fun _=>J),aR⟩,J,J,J,J,J,fun _ sg _ _=>aB J (aV (r:=bY) (ys:=[(r4.1.length:Int)]) (xs:=[.tmp 111]) g9 cv J J J J J ⟨(ht J),aR⟩)⟩,
        ⟨⟨[⟨109,fun _=>tO bY (i1.h 1).1 (i1.h 1).2 r2.2.width,some 12⟩,⟨112,fun _=>tD wN ([(r4.1.length:Int)]),some 15⟩],_,J,⟨(fun _=>J),(fun _=>J),aR⟩,J,J,J,fun sg=>eI J (EffOK.fr3 (t7 cv J J J J g9 J (ht J) (ht J) q_l4))⟩,
        ⟨⟨[⟨97,fun _=>tV (aP b1 0),some 0⟩],_,2,2,J,⟨(fun _=>J),aR⟩,J,J,J,J,J,fun _ sg _ _=>aB J (dG (ht J))⟩,
        ⟨⟨[⟨114,fun _=>tV (aP b1 0),some 17⟩],_,2,2,J,⟨(fun _=>J),aR⟩,J,J,J,J,J,fun _ sg _ _=>aB J (kG 1 qq J J J)⟩,
        ⟨⟨[⟨115,fun _=>tV (aP b1 1),some 18⟩,⟨105,fun sg=>tO d7 ((sg 8).h 0).1 ((sg 8).h 0).2 l3,some 8⟩],_,J,⟨(fun _=>J),(fun _=>J),aR⟩,J,J,J,fun sg=>eI J (EffOK.fr3 (vS (hs' :=[(1,aS ((sg 8).h 0).1 ((sg 8).h 0).2 l3.length),(2,aS (i1.h 1).1 (i1.h 1).2 r2.2.width.length)]) (u:=aS ((sg 8).h 0).1 ((sg 8).h 0).2 l3.length) yw J J QE J ⟨.inl ⟨J,J,J⟩,.inr ⟨J,J⟩,aR⟩ (ht J) (k7 (ht J)) (Lu (ht J))))⟩,
        aR⟩⟩⟩⟩⟩⟩⟩⟩⟩⟩⟩⟩⟩⟩⟩⟩⟩⟩⟩⟩ (fun sg=>?_)
       refine(show RG _ _ _ _ [bx (rH eD [(1,aS ((sg 8).h 0).1 ((sg 8).h 0).2 l3.length),(2,aS (i1.h 1).1 (i1.h 1).2 r2.2.width.length)]) 96 b1 ({r2.2 with rows:=l3}:cX),d5 bY 3 ((sg 16).h 0).1 ((sg 16).h 0).2 l4,d5 d7 32 ((sg 8).h 0).1 ((sg 8).h 0).2 l3,ni (wv (fun y:(cX→am→Option (((List (List ac))×Int)×cX))=>dS aO o3 (jn b1) pY y)) nh b2 none os7 Qm] _ from ?_);refine zo J (dG (ht J))<|zo J (kG 2 Mu J J J)<|v7 (vS (hs' :=[(1,aS ((sg 8).h 0).1 ((sg 8).h 0).2 l3.length),(2,aS ((sg 16).h 0).1 ((sg 16).h 0).2 l4.length)]) (u:=aS ((sg 16).h 0).1 ((sg 16).h 0).2 l4.length) eC J J QD J ⟨.inr ⟨J,J⟩,.inl ⟨J,J,J⟩,aR⟩ (ht J) (k7 (ht J)) (Lu (ht J))) fun i2=>?_;refine(show RG _ _ _ _ [bx (rH eD [(1,aS ((sg 8).h 0).1 ((sg 8).h 0).2 l3.length),(2,aS ((sg 16).h 0).1 ((sg 16).h 0).2 l4.length)]) 96 b1 ({({r2.2 with rows:=l3}:cX)with width:=l4}:cX),d5 bY 3 ((sg 16).h 0).1 ((sg 16).h 0).2 l4,d5 d7 32 ((sg 8).h 0).1 ((sg 8).h 0).2 l3,ni (wv (fun y:(cX→am→Option (((List (List ac))×Int)×cX))=>dS aO o3 (jn b1) pY y)) nh b2 none os7 Qm] _ from ?_);refine aQ<|ap<|av<|aw<|zo rfl (mI (cQ hx hN) rfl)<|aF rfl<|aQ<|bE<|aK<|aK<|cN ?_;exact bg (aT (ih (i+1) ({({r2.2 with rows:=l3}:cX)with width:=l4}:cX) ((sg 8).h 0).1 ((sg 8).h 0).2 ((sg 16).h 0).1 ((sg 16).h 0).2 ⟨cP hx,h⟩) (bt J))
      ·skip
       refine au<|zo J (cY BO qp J J)<|zo J (bB cv J J)<|zo J (tE J)<|aq<|cU h J (fun h=>?_) (fun h=>?_)
       ·refine aw<|aF J<|bv h fun r5 q_r5 h=>zo J (aA ab1 (XK _ q_r5) ⟨(ht J),aR⟩)<|aF J<|zo J (hZ J J)<|zo J (hZ J J)<|bm J<|aQ ?_;exact cM (K1 r5.1 h) (bt J)
       ·refine bw ?_;exact cM (K1 r2.1.1 h) (bt J)
    ·skip
     refine au<|aF J<|zo J (lU J)<|aF J<|cR J J (fun hg=>cD J)<|cR J J (fun hg=>dW gR (bD J hg))<|cR J J (fun hg=>jm (bD J hg) hI)<|zo J (rE J J)<|aq<|cU h J (fun h=>?_) (fun h=>?_)
     ·refine aw<|zo J (cq)<|aQ<|aK<|aK<|aK<|cN ?_;exact cM (K (3:Int) h) (bt J)
     ·refine bw<|aK<|aK<|aK<|cN ?_;exact cM (K r2.1.2 h) (bt J)

end Go.Proofs.YtfhhakidodmdfaaGreatDoor

