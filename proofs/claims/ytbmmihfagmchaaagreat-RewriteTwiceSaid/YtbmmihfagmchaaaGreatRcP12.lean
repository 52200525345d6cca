/- cW of this claim: P12. -/
import Derived.Test.YtbmmihfagmchaaaGreatRcT
import Derived.Test.YtbmmihfagmchaaaGreatRcP11
set_option linter.all false
namespace Go.Proofs.YtbmmihfagmchaaaGreat
open Go
set_option maxRecDepth 100000

def Mp l most{R}(h:mM l most=some R):gP bh 30 [gk (ak) l,cE most] false ak 55 R:=by
 exact gP.of Tryz.func30 M M M fun w0 S0=>aV<|bL false ak 55<|K (bF tK)<|cb<|aV<|fC (r:=ak) (ys:=Ll) (xs:=[]) jW dV M M M M M trivial M fun l1 c=>bu M<|bu M<|cA jW M<|bu M<|K (ru (D M) (D M))<|cC h fun y q_y h=>K (oU jW dV M (D M) (D M) q_y)<|cC h fun x q_x h=>dE dV M M M M jW M M (D M) (D M) q_x fun l2 c1=>bG M<|so h▸hG M M
def Mo l most{R}(h:m5 l most=some R):gP bh 31 [lO l,cE most] false cN 3 R:=by
 exact gP.of Tryz.func31 M M M fun w0 S0=>aV<|bL false cN 3<|K (bF tK)<|cb<|aV<|fC (r:=cN) (ys:=y0) (xs:=[]) gr ck M M M M M trivial M fun l1 c=>bu M<|bu M<|cA gr M<|bu M<|K (ru (D M) (D M))<|cC h fun y q_y h=>K (oU gr ck M (D M) (D M) q_y)<|cC h fun x q_x h=>dE ck M M M M gr M M (D M) (D M) q_x fun l2 c1=>bG M<|so h▸hG M M
def Ks l most{R}(h:m5 l most=some R):cK bh 31 [lO l,cE most] (lO R):=(Mo _ _ h).spec

def Mn l most{R}(h:oc l most=some R):gP bh 32 [gk (dl) l,cE most] false dl 77 R:=by
 exact gP.of Tryz.func32 M M M fun w0 S0=>aV<|bL false dl 77<|K (bF tK)<|cb<|aV<|fC (r:=dl) (ys:=Lm) (xs:=[]) qc qf M M M M M trivial M fun l1 c=>bu M<|bu M<|cA qc M<|bu M<|K (ru (D M) (D M))<|cC h fun y q_y h=>K (oU qc qf M (D M) (D M) q_y)<|cC h fun x q_x h=>dE qf M M M M qc M M (D M) (D M) q_x fun l2 c1=>bG M<|so h▸hG M M
def Mm l most{R}(h:nq l most=some R):gP bh 33 [gk (af) l,cE most] false af 27 R:=by
 exact gP.of Tryz.func33 M M M fun w0 S0=>aV<|bL false af 27<|K (bF tK)<|cb<|aV<|fC (r:=af) (ys:=vP) (xs:=[]) kX aU M M M M M trivial M fun l1 c=>bu M<|bu M<|cA kX M<|bu M<|K (ru (D M) (D M))<|cC h fun y q_y h=>K (oU kX aU M (D M) (D M) q_y)<|cC h fun x q_x h=>dE aU M M M M kX M M (D M) (D M) q_x fun l2 c1=>bG M<|so h▸hG M M
def Ml l most{R}(h:lM l most=some R):gP bh 34 [gk (eQ) l,cE most] false eQ 81 R:=by
 exact gP.of Tryz.func34 M M M fun w0 S0=>aV<|bL false eQ 81<|K (bF tK)<|cb<|aV<|fC (r:=eQ) (ys:=([]:List jU)) (xs:=[]) t7 zQ M M M M M trivial M fun l1 c=>bu M<|bu M<|cA t7 M<|bu M<|K (ru (D M) (D M))<|cC h fun y q_y h=>K (oU t7 zQ M (D M) (D M) q_y)<|cC h fun x q_x h=>dE zQ M M M M t7 M M (D M) (D M) q_x fun l2 c1=>bG M<|so h▸hG M M
def Pb l most{R}(h:lM l most=some R):cK bh 34 [gk (eQ) l,cE most] (gk (eQ) R):=(Ml _ _ h).spec

def Ph l{R}(h:u4 l=some R):cK bh 12 [H ay l] (H ay R):=by
 refine ep Tryz.func12 M<|aV<|dh M<|aA cQ d5 M fun b=>cb<|aV<|bP gq eg nk M<|ri h SO (Mp _ _) (co M) fun r h l1 c=>K (bR (y:=ef (⟨r⟩:aw) (aL l1 c r.length)) cQ C5 sZ (⟨_,_,_,_,_,M,CM,M,(BC (D M)),M⟩))<|bL false ak 55<|aA (r:=dK) (x:=ef Bg NX) cQ sZ M fun b1=>ei (r' :=dK) cQ M (jb M) M (D M) (D M)<|aT<|qq<|cb<|bl ?_;refine bJ 0 gq M<|K (fI nk jJ (.head _) M (D M))<|K (fj jW (.tail _ (.head _)) (D M))<|K (ci hI)<|cb<|av<|gj (.tail _ (.head _)) fun hN=>cd<|dn<|dn<|fi ?_;refine aP (jp (h3:=fun ls i out=>(r.drop i=ls)/\jI ls i out=some R) (Of:=fun _ i out=>[bx ay 39 b Bg,bx dK 39 b1 (ef out (aL l1 c out.Nodes.length)),fD ak 55 l1 c out.Nodes]) (Gf:=fun _ i out=>[(2,tV (ax b 0)),(3,tV (ax b1 0)),(15,tB l1 c r),(16,jw r),(17,cE (i:Int))]) (fun i out h=>?_) (fun e tl ih i out h=>?_) r 0 ({(⟨r⟩:aw)with Nodes:=r}:aw) ⟨M,h⟩) (bv M)
 ·obtain⟨I,h⟩:=h
  refine fa I M<|aB<|aV<|dy<|ik<|K (iQ (q:=ay) (y:=out) cQ M M M M (.tail _ (.tail _ (.head _))) (fun _ _ _ ho h=>nf (j4 ho (.head _)) h) (D M))<|aT<|aO cQ ac M<|aD 2 M<|da ?_;exact aN<|aN<|so h▸gR M cQ M M M
 ·obtain⟨I,h⟩:=h
  refine eZ I M<|aI<|av<|aZ M<|cC h fun e1 q_e1 h=>K (si jW dV (.tail _ (.tail _ (.head _))) (D M) (D M) q_e1 (GC I))<|cC h fun e2 q_e2 h=>K (dm (r:=ak) (i:=(i:Int)) (foff:=0) dV M M bO M (.tail _ (.tail _ (.head _))) q_e2 (D M))<|bL false dl 77<|bL false af 27<|aA (r:=dC) (x:=fJ Jm (aL none 0 (Lm.length)) (aL none 0 (vP.length))) dV CD M fun b2=>jy M<|ei (r' :=ak) (x' :=e2) dV M (jb M) M (D M) (D M) ?_;refine(show RG _ _ _ _ [_,_,_,_,_,_] _ from ?_);refine aT<|qq<|aT<|qq<|cb<|aI<|cC h fun r1 q_r1 h=>cC h fun r2 q_r2 h=>cC h fun r3 q_r3 h=>cC h fun r4 q_r4 h=>cC h fun r5 q_r5 h=>?_
  refine jN 16 [tc (tV (ax b2 4)),tc (lO e2.Kinds),tc (lO r1),tc (tV (ax b2 7)),tc (lO e2.Keys),tc (lO r2),tc (tV (ax b2 8)),tc (gk (dl) e2.Aggs),([8],fun s=>tV (aL ((s.getD 0 qt).h 0).1 ((s.getD 0 qt).h 0).2 r3.length)),tc (tV (ax b2 9)),tc (gk (af) e2.Items),([11],fun s=>tV (aL ((s.getD 0 qt).h 0).1 ((s.getD 0 qt).h 0).2 r4.length)),tc (tV (ax b2 10)),tc (gk (eQ) e2.Order),tc (gk (eQ) r5),tc (tV (ax b2 4))] [false,false,false,false,false,false,false,false,true,false,false,true,false,false,false,false] [fun _=>[bx ak 55 b2 e2,bx ay 39 b Bg,bx dK 39 b1 (ef out (aL l1 c out.Nodes.length)),fD ak 55 l1 c out.Nodes],fun sg=>[fD dl 77 ((sg 8).h 0).1 ((sg 8).h 0).2 r3,bx ak 55 b2 e2,bx ay 39 b Bg,bx dK 39 b1 (ef out (aL l1 c out.Nodes.length)),fD ak 55 l1 c out.Nodes],fun sg=>[fD af 27 ((sg 11).h 0).1 ((sg 11).h 0).2 r4,fD dl 77 ((sg 8).h 0).1 ((sg 8).h 0).2 r3,bx ak 55 b2 e2,bx ay 39 b Bg,bx dK 39 b1 (ef out (aL l1 c out.Nodes.length)),fD ak 55 l1 c out.Nodes]] M mixed M M M M M
   ⟨⟨[⟨5,fun _=>tV (ax b2 0),none⟩],_,0,0,M,⟨(fun _=>M),aR⟩,M,M,M,M,M,fun _ sg _ _=>ae M (rW 4 pY M M M)⟩,
   ⟨⟨[⟨22,fun _=>tV (ax b2 4),some 0⟩],_,0,0,M,⟨(fun _=>M),aR⟩,M,M,M,M,M,sw (fun sg=>ae M (be eK M M kR (.head _) (D M)))⟩,
   ⟨⟨[⟨23,fun _=>H vN e2.Kinds,some 1⟩],_,0,0,M,⟨(fun _=>M),aR⟩,M,M,M,M,M,fun _ sg _ _=>ae M (cm QX (Ks _ _ q_r1) ⟨(D M),hI,aR⟩)⟩,
   ⟨⟨[⟨5,fun _=>tV (ax b2 0),none⟩],_,0,0,M,⟨(fun _=>M),aR⟩,M,M,M,M,M,fun _ sg _ _=>ae M (rW 7 o0 M M M)⟩,
   ⟨⟨[⟨25,fun _=>tV (ax b2 7),some 3⟩],_,0,0,M,⟨(fun _=>M),aR⟩,M,M,M,M,M,sw (fun sg=>ae M (be eK M M jR (.head _) (D M)))⟩,
   ⟨⟨[⟨26,fun _=>H vN e2.Keys,some 4⟩],_,0,0,M,⟨(fun _=>M),aR⟩,M,M,M,M,M,fun _ sg _ _=>ae M (cm QX (Ks _ _ q_r2) ⟨(D M),hI,aR⟩)⟩,
   ⟨⟨[⟨5,fun _=>tV (ax b2 0),none⟩],_,0,0,M,⟨(fun _=>M),aR⟩,M,M,M,M,M,fun _ sg _ _=>ae M (rW 8 mO M M M)⟩,
   ⟨⟨[⟨28,fun _=>tV (ax b2 8),some 6⟩],_,0,0,M,⟨(fun _=>M),aR⟩,M,M,M,M,M,sw (fun sg=>ae M (be vk M M md (.head _) (D M)))⟩,
   ⟨⟨[⟨29,fun _=>H (gJ dl) e2.Aggs,some 7⟩],_,M,⟨(fun _=>M),aR⟩,M,M,M,fun sg=>cD M (vc (xs:=[.tmp 29,.const (.int .i64 (14))]) (ts:=[H (gJ dl) e2.Aggs,H cN (14:Int)]) SN (Mn _ _ q_r3) ⟨(D M),hI,aR⟩)⟩,
   ⟨⟨[⟨5,fun _=>tV (ax b2 0),none⟩],_,0,1,M,⟨(fun _=>M),aR⟩,M,M,M,M,M,fun _ sg _ _=>ae M (rW 9 kh M M M)⟩,
   ⟨⟨[⟨31,fun _=>tV (ax b2 9),some 9⟩],_,0,1,M,⟨(fun _=>M),aR⟩,M,M,M,M,M,xE (fun sg=>ae M (be hZ M M gM (.head _) (D M))) (sw (fun sg=>ae M (be hZ M M gM (.tail _ (.head _)) (D M))))⟩,
   ⟨⟨[⟨32,fun _=>H vO e2.Items,some 10⟩],_,M,⟨(fun _=>M),aR⟩,M,M,M,fun sg=>cD M (vc (xs:=[.tmp 32,.const (.int .i64 (17))]) (ts:=[H vO e2.Items,H cN (17:Int)]) SM (Mm _ _ q_r4) ⟨(D M),hI,aR⟩)⟩,
   ⟨⟨[⟨5,fun _=>tV (ax b2 0),none⟩],_,0,2,M,⟨(fun _=>M),aR⟩,M,M,M,M,M,fun _ sg _ _=>ae M (rW 10 po M M M)⟩,
   ⟨⟨[⟨34,fun _=>tV (ax b2 10),some 12⟩],_,0,2,M,⟨(fun _=>M),aR⟩,M,M,M,M,M,xE (fun sg=>ae M (be y4 M M jK (.head _) (D M))) (xE (fun sg=>ae M (be y4 M M jK (.tail _ (.head _)) (D M))) (sw (fun sg=>ae M (be y4 M M jK (.tail _ (.tail _ (.head _))) (D M)))))⟩,
   ⟨⟨[⟨35,fun _=>H (gJ eQ) e2.Order,some 13⟩],_,2,2,M,⟨(fun _=>M),aR⟩,M,M,M,M,M,fun _ sg _ _=>ae M (cm SL (Pb _ _ q_r5) ⟨(D M),hI,aR⟩)⟩,
   ⟨⟨[⟨5,fun _=>tV (ax b2 0),none⟩],_,0,2,M,⟨(fun _=>M),aR⟩,M,M,M,M,M,fun _ sg _ _=>ae M (rW 4 pY M M M)⟩,
   aR⟩⟩⟩⟩⟩⟩⟩⟩⟩⟩⟩⟩⟩⟩⟩⟩ (fun sg=>?_)
  refine(show RG _ _ _ _ [_,_,_,_,_,_] _ from ?_);refine dy<|aO eK qM M<|bJ 7 o0 M<|aO eK vX M<|bJ 8 mO M<|ei vk M (qK _ _) M (D M) (BC (D M))<|bJ 9 kh M<|ei hZ M (nU _ _ _) M (D M) (BC (D M))<|bJ 10 po M<|aO y4 y6 M<|cb<|bl<|bJ 8 mO M<|K (fI vk mb (.head _) M (D M))<|K (fj qc (.tail _ (.tail _ (.head _))) (D M))<|K (ci hI)<|cb<|av<|gj (.tail _ (.tail _ (.head _))) fun hN1=>cd ?_;refine dn<|fi<|fi<|yn<|yn<|yn ?_;refine aP (jp (h3:=fun ls1 i1 n=>(r3.drop i1=ls1)/\mC (jI tl) i out ls1 i1 n=some R) (Of:=fun _ i1 n=>[bx ay 39 b Bg,bx dK 39 b1 (ef out (aL l1 c out.Nodes.length)),fD ak 55 l1 c out.Nodes,bx dC 55 b2 (fJ n (aL ((sg 8).h 0).1 ((sg 8).h 0).2 n.Aggs.length) (aL ((sg 11).h 0).1 ((sg 11).h 0).2 n.Items.length)),fD dl 77 ((sg 8).h 0).1 ((sg 8).h 0).2 n.Aggs,fD af 27 ((sg 11).h 0).1 ((sg 11).h 0).2 n.Items]) (Gf:=fun _ i1 n=>[(2,tV (ax b 0)),(3,tV (ax b1 0)),(4,cE (i:Int)),(5,tV (ax b2 0)),(15,tB l1 c r),(16,jw r),(17,cE (i:Int)),(43,tV (aL ((sg 8).h 0).1 ((sg 8).h 0).2 r3.length)),(44,jw r3),(45,cE (i1:Int))]) (fun i1 n h=>?_) (fun e3 tl1 ih1 i1 n h=>?_) r3 0 ({({({(aa.mk e2.Op e2.A e2.B e2.Table r1 e2.Left e2.Cond r2 e2.Aggs e2.Items e2.Order e2.Limit)with Order:=r5}:aa)with Aggs:=r3}:aa)with Items:=r4}:aa) ⟨M,h⟩) (bv M)
  ·obtain⟨hx1,h⟩:=h
   refine fa hx1 M<|aB<|bl<|bJ 9 kh M<|K (fI hZ ma (.tail _ (.tail _ (.tail _ (.head _)))) M (D M))<|K (fj kX (.tail _ (.tail _ (.tail _ (.tail _ (.tail _ (.head _)))))) (D M))<|K (ci hI)<|cb<|av<|gj (.tail _ (.tail _ (.tail _ (.tail _ (.tail _ (.head _)))))) fun hN2=>?_;refine cd ?_;refine aP (jp (h3:=fun ls2 i2 n1=>(n.Items.drop i2=ls2)/\mB (jI tl) i out ls2 i2 n1=some R) (Of:=fun _ i2 n1=>[bx ay 39 b Bg,bx dK 39 b1 (ef out (aL l1 c out.Nodes.length)),fD ak 55 l1 c out.Nodes,bx dC 55 b2 (fJ n1 (aL ((sg 8).h 0).1 ((sg 8).h 0).2 n1.Aggs.length) (aL ((sg 11).h 0).1 ((sg 11).h 0).2 n1.Items.length)),fD dl 77 ((sg 8).h 0).1 ((sg 8).h 0).2 n1.Aggs,fD af 27 ((sg 11).h 0).1 ((sg 11).h 0).2 n1.Items]) (Gf:=fun _ i2 n1=>[(2,tV (ax b 0)),(3,tV (ax b1 0)),(4,cE (i:Int)),(5,tV (ax b2 0)),(15,tB l1 c r),(16,jw r),(17,cE (i:Int)),(60,tV (aL ((sg 11).h 0).1 ((sg 11).h 0).2 n.Items.length)),(61,jw n.Items),(62,cE (i2:Int))]) (fun i2 n1 h=>?_) (fun e4 tl2 ih2 i2 n1 h=>?_) n.Items 0 n ⟨M,h⟩) (bv M)
   ·obtain⟨hx2,h⟩:=h
    refine fa hx2 M<|aB<|aV<|bJ 6 ki M<|K (be aU M M AC (.tail _ (.tail _ (.tail _ (.head _)))) (D M))<|eu h Su (Km _) (co M) fun r6 h=>bJ 6 ki M<|ek<|aO aU z6 M<|cb ?_;refine aG<|bJ 0 gq M<|K (fI nk jJ (.tail _ (.tail _ (.head _))) M (D M))<|bu M<|mG<|ik<|vf<|ik<|K (iQ (q:=ak) (y:=({({({n1 with Cond:=r6}:aa)with Aggs:=n1.Aggs}:aa)with Items:=n1.Items}:aa)) dV M M M M (.tail _ (.tail _ (.head _))) (fun _ _ _ ho h=>rK (j4 ho (.tail _ (.head _))) (j4 ho (.head _)) h) (D M))<|K (bX jW dV (.tail _ (.tail _ (.tail _ (.tail _ (.tail _ (.head _)))))) (D M) (D M) q_e2)<|vf<|cC h fun st q_st h=>ku dV M ac M q_e2 (so q_st) (D M) (D M)<|gA (d8 (so q_st)) 79 M<|oD (O' :=[fD ak 55 l1 c st,hX af 27 ((sg 11).h 0).1 ((sg 11).h 0).2 n1.Items,hX dl 77 ((sg 8).h 0).1 ((sg 8).h 0).2 n1.Aggs,bx dC 55 b2 (fJ ({n1 with Cond:=r6}:aa) (aL ((sg 8).h 0).1 ((sg 8).h 0).2 n1.Aggs.length) (aL ((sg 11).h 0).1 ((sg 11).h 0).2 n1.Items.length)),bx ay 39 b Bg,bx dK 39 b1 (ef out (aL l1 c st.length))]) (by first|(rw [d8 (so q_st)];done)|(rw [d8 (so q_st)];exact M)|exact M)<|bt<|dU I hN M<|bq<|aN ?_;refine bq<|aN<|bq<|aN<|aJ<|aJ ?_;exact bg (aP (ih (i+1) ({out with Nodes:=st}:aw) ⟨dH I,h⟩) (bv M))
   ·obtain⟨hx2,h⟩:=h
    refine eZ hx2 M<|aI<|av<|aZ M<|cC h fun e5 q_e5 h=>K (si kX aU (.tail _ (.tail _ (.tail _ (.tail _ (.tail _ (.head _)))))) (D M) (D M) q_e5 (GC hx2))<|cC h fun e6 q_e6 h=>K (dm (r:=af) (i:=(i2:Int)) (foff:=0) aU M M bO M (.tail _ (.tail _ (.tail _ (.tail _ (.tail _ (.head _)))))) q_e6 (D M))<|aA aU cB M fun b3=>jy M<|aO aU ac M<|aD 9 M<|bt ?_;refine aB<|cC h fun r7 q_r7 h=>?_
    refine kD 6 (ts:=[tV (ax b2 9),tV (aL ((sg 11).h 0).1 ((sg 11).h 0).2 n1.Items.length),cE (i2:Int),H af e6,H af r7,tV (jn ((sg 11).h 0).1 ((i2:Int).toNat*1+0))]) mixed M M M
     ⟨qd 5 M M (rW 9 kh M M M),
     ⟨fb 67 0 M M (fI hZ ma (.tail _ (.tail _ (.tail _ (.head _)))) M (D M)),
     ⟨iJ M M,
     ⟨qd 9 M M (pe aU M M),
     ⟨fb 70 3 M M (cm Su (Km _ q_r7) ⟨(D M),aR⟩),
     ⟨gg 68 1 69 2 M M M (bX kX aU (.tail _ (.tail _ (.tail _ (.tail _ (.tail _ (.head _)))))) (D M) (D M) q_e6),
     aR⟩⟩⟩⟩⟩⟩ ?_
    refine vf<|cC h fun st1 q_st1 h=>ku aU M ac M q_e6 (so q_st1) (D M) (D M)<|gA (d8 (so q_st1)) 68 M<|oD (O' :=[fD af 27 ((sg 11).h 0).1 ((sg 11).h 0).2 st1,bx ay 39 b Bg,bx dK 39 b1 (ef out (aL l1 c out.Nodes.length)),fD ak 55 l1 c out.Nodes,bx dC 55 b2 (fJ n1 (aL ((sg 8).h 0).1 ((sg 8).h 0).2 n1.Aggs.length) (aL ((sg 11).h 0).1 ((sg 11).h 0).2 st1.length)),fD dl 77 ((sg 8).h 0).1 ((sg 8).h 0).2 n1.Aggs]) (by first|(rw [d8 (so q_st1)];done)|(rw [d8 (so q_st1)];exact M)|exact M)<|bt<|dU hx2 hN2 M<|kE<|kE<|kE<|kE<|kE ?_;exact bg (aP (ih2 (i2+1) ({n1 with Items:=st1}:aa) ⟨dH hx2,h⟩) (bv M))
  ·obtain⟨hx1,h⟩:=h
   refine eZ hx1 M<|aI<|av<|aZ M<|cC h fun e7 q_e7 h=>K (si qc qf (.tail _ (.tail _ (.tail _ (.tail _ (.head _))))) (D M) (D M) q_e7 (GC hx1))<|cC h fun e8 q_e8 h=>K (dm (r:=dl) (i:=(i1:Int)) (foff:=0) qf M M bO M (.tail _ (.tail _ (.tail _ (.tail _ (.head _))))) q_e8 (D M))<|aA qf CF M fun b4=>jy M<|aO qf ac M<|aD 7 M<|bt ?_;refine aB<|cC h fun r8 q_r8 h=>?_
   refine kD 8 (ts:=[tV (ax b2 8),tV (aL ((sg 8).h 0).1 ((sg 8).h 0).2 n.Aggs.length),cE (i1:Int),bC af e8.Arg,H af e8.Arg,H af r8,tV (jn ((sg 8).h 0).1 ((i1:Int).toNat*2+0)),tV (jn ((sg 8).h 0).1 ((i1:Int).toNat*2+1))]) mixed M M M
    ⟨qd 5 M M (rW 8 mO M M M),
    ⟨fb 50 0 M M (fI vk mb (.tail _ (.tail _ (.tail _ (.head _)))) M (D M)),
    ⟨iJ M M,
    ⟨qd 7 M M (nN uI q9 M M),
    ⟨jf 3 aU M M,
    ⟨fb 54 4 M M (cm Su (Km _ q_r8) ⟨(D M),aR⟩),
    ⟨gg 51 1 52 2 M M M (bX qc qf (.tail _ (.tail _ (.tail _ (.tail _ (.head _))))) (D M) (D M) q_e8),
    ⟨fb 56 6 M M (cM (o:=(i1:Int).toNat*2+0) (n:=(i1:Int).toNat*2+1) uI M (.tail _ (.tail _ (.tail _ (.tail _ (.head _))))) q_e8 (D M) M),
    aR⟩⟩⟩⟩⟩⟩⟩⟩ ?_
   refine mG<|cC h fun st2 q_st2 h=>ku aU M D2 M q_e8 (so q_st2) (D M) (D M)<|gA (d8 (so q_st2)) 51 M<|oD (O' :=[fD dl 77 ((sg 8).h 0).1 ((sg 8).h 0).2 st2,bx ay 39 b Bg,bx dK 39 b1 (ef out (aL l1 c out.Nodes.length)),fD ak 55 l1 c out.Nodes,bx dC 55 b2 (fJ n (aL ((sg 8).h 0).1 ((sg 8).h 0).2 st2.length) (aL ((sg 11).h 0).1 ((sg 11).h 0).2 n.Items.length)),fD af 27 ((sg 11).h 0).1 ((sg 11).h 0).2 n.Items]) (by first|(rw [d8 (so q_st2)];done)|(rw [d8 (so q_st2)];exact M)|exact M)<|bt<|dU hx1 hN1 M<|kE<|bq<|kE<|kE<|kE<|kE ?_;exact bg (aP (ih1 (i1+1) ({n with Aggs:=st2}:aa) ⟨dH hx1,h⟩) (bv M))

def O7 s1 s2 eq{R}(h:cX s1 s2 eq=some R):cK bh 41 [gk (ak) s1,gk (ak) s2,(kK bh N4 rh (fun(x:aa×aa)=>eq x.1 x.2))] (gC R):=by
 refine ep Tryz.func41 M<|aV<|cn<|cb<|bl<|bu M<|cA jW M<|bu M<|cA jW M<|K (jt (D M) (D M))<|dv h M (fun h=>?_) (fun h=>?_)
 ·exact aV<|cn<|da<|an<|so h▸bB M M
 ·refine kF<|bl<|bu M<|cA jW M<|K (ci hI)<|cb<|av<|bA (k:=15) M fun hN=>cd ?_;refine aP (jq (h3:=fun ls i=>(s1.drop i=ls)/\bD s2 eq ls i=some R) (Of:=fun _ i=>[]) (Gf:=fun _ i=>[(1,gk (ak) s2),(2,(kK bh N4 rh (fun(x:aa×aa)=>eq x.1 x.2))),(15,gk (ak) s1),(16,jw s1),(17,cE (i:Int))]) (fun i h=>?_) (fun e tl ih i h=>?_) s1 0 ⟨M,h⟩) (bv M)
  ·obtain⟨I,h⟩:=h
   exact fa I M<|aB<|aV<|cn<|da<|so h▸bB M M
  ·obtain⟨I,h⟩:=h
   refine eZ I M<|aI<|av<|aZ M<|gF jW dV M (fy I)<|aA dV iA M fun b=>jy M<|aO dV ac M<|aD 8 M<|cb<|aI ?_;refine aG<|bu M<|bu M<|cC h fun e1 q_e1 h=>gF jW dV M q_e1<|aA dV iA M fun b1=>aO dV ac M<|aD 9 M<|cb<|aZ M<|bw dV M<|bw dV M<|cC h fun r q_r h=>K (mZ (args:=N4) (res:=Fz) (f:=(fun(x:aa×aa)=>eq x.1 x.2)) (x:=((e,e1):aa×aa)) (D M) q_r ⟨(D M),(D M),aR⟩)<|K (iY (D M))<|dv h M (fun h=>?_) (fun h=>?_)
   ·exact aV<|cn<|da<|eN<|an<|eN<|so h▸bB M M
   ·refine cc<|dU I hN M ?_;exact bg (aP (ih (i+1) ⟨dH I,h⟩) (bv M))

end Go.Proofs.YtbmmihfagmchaaaGreat

