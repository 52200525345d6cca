/- cP of this claim: P12. -/
import Derived.Test.YtbmmihfagmchaaaGreatRbT
import Derived.Test.YtbmmihfagmchaaaGreatRbP11
set_option linter.all false
namespace Go.Proofs.YtbmmihfagmchaaaGreat
open Go
set_option maxRecDepth 100000

def Ms l most{R}(h:mF l most=some R):gk bk 30 [gP (ak) l,cA most] false ak 55 R:=by
 exact gk.of Tryz.func30 M M M fun w0 S0=>aV<|bC false ak 55<|K (bz sD)<|cb<|aV<|fh (r:=ak) (ys:=Lq) (xs:=[]) jR dR M M M M M trivial M fun l1 c=>bu M<|bu M<|c9 jR M<|bu M<|K (rf (D M) (D M))<|cy h fun y q_y h=>K (oR jR dR M (D M) (D M) q_y)<|cy h fun x q_x h=>dm dR M M M M jR M M (D M) (D M) q_x fun l2 c1=>bF M<|so h▸gn M M
def Mr l most{R}(h:mU l most=some R):gk bk 31 [lI l,cA most] false cB 3 R:=by
 exact gk.of Tryz.func31 M M M fun w0 S0=>aV<|bC false cB 3<|K (bz sD)<|cb<|aV<|fh (r:=cB) (ys:=xw) (xs:=[]) fS cn M M M M M trivial M fun l1 c=>bu M<|bu M<|c9 fS M<|bu M<|K (rf (D M) (D M))<|cy h fun y q_y h=>K (oR fS cn M (D M) (D M) q_y)<|cy h fun x q_x h=>dm cn M M M M fS M M (D M) (D M) q_x fun l2 c1=>bF M<|so h▸gn M M
def Kv l most{R}(h:mU l most=some R):cI bk 31 [lI l,cA most] (lI R):=(Mr _ _ h).spec

def Mq l most{R}(h:n7 l most=some R):gk bk 32 [gP (dt) l,cA most] false dt 77 R:=by
 exact gk.of Tryz.func32 M M M fun w0 S0=>aV<|bC false dt 77<|K (bz sD)<|cb<|aV<|fh (r:=dt) (ys:=Lr) (xs:=[]) rE tF M M M M M trivial M fun l1 c=>bu M<|bu M<|c9 rE M<|bu M<|K (rf (D M) (D M))<|cy h fun y q_y h=>K (oR rE tF M (D M) (D M) q_y)<|cy h fun x q_x h=>dm tF M M M M rE M M (D M) (D M) q_x fun l2 c1=>bF M<|so h▸gn M M
def Mp l most{R}(h:ne l most=some R):gk bk 33 [gP (ah) l,cA most] false ah 27 R:=by
 exact gk.of Tryz.func33 M M M fun w0 S0=>aV<|bC false ah 27<|K (bz sD)<|cb<|aV<|fh (r:=ah) (ys:=vB) (xs:=[]) lJ aX M M M M M trivial M fun l1 c=>bu M<|bu M<|c9 lJ M<|bu M<|K (rf (D M) (D M))<|cy h fun y q_y h=>K (oR lJ aX M (D M) (D M) q_y)<|cy h fun x q_x h=>dm aX M M M M lJ M M (D M) (D M) q_x fun l2 c1=>bF M<|so h▸gn M M
def Mo l most{R}(h:lF l most=some R):gk bk 34 [gP (fU) l,cA most] false fU 81 R:=by
 exact gk.of Tryz.func34 M M M fun w0 S0=>aV<|bC false fU 81<|K (bz sD)<|cb<|aV<|fh (r:=fU) (ys:=([]:List ly)) (xs:=[]) yY FE M M M M M trivial M fun l1 c=>bu M<|bu M<|c9 yY M<|bu M<|K (rf (D M) (D M))<|cy h fun y q_y h=>K (oR yY FE M (D M) (D M) q_y)<|cy h fun x q_x h=>dm FE M M M M yY M M (D M) (D M) q_x fun l2 c1=>bF M<|so h▸gn M M
def Pa l most{R}(h:lF l most=some R):cI bk 34 [gP (fU) l,cA most] (gP (fU) R):=(Mo _ _ h).spec

def Pg l{R}(h:uR l=some R):cI bk 12 [H ay l] (H ay R):=by
 refine eC Tryz.func12 M<|aV<|dn M<|aC cJ ec M fun b=>cb<|aV<|ca fY d5 na M<|q5 h SF (Ms _ _) (cm M) fun r h l1 c=>K (bP (y:=dZ (⟨r⟩:aw) (aK l1 c r.length)) cJ CW sS (⟨_,_,_,_,_,M,CD,M,(Bx (D M)),M⟩))<|bC false ak 55<|aC (r:=dA) (x:=dZ Ba N6) cJ sS M fun b1=>d6 (r' :=dA) cJ M (iC M) M (D M) (D M)<|aS<|qe<|cb<|bm ?_;refine bI 0 fY M<|K (fq na jz (.head _) M (D M))<|K (eU jR (.tail _ (.head _)) (D M))<|K (cj hI)<|cb<|av<|fR (.tail _ (.head _)) fun hN=>ci<|cX<|cX<|eT ?_;refine aN (jh (h3:=fun ls i out=>(r.drop i=ls)/\jy ls i out=some R) (Of:=fun _ i out=>[bx ay 39 b Ba,bx dA 39 b1 (dZ out (aK l1 c out.Nodes.length)),fi ak 55 l1 c out.Nodes]) (Gf:=fun _ i out=>[(2,tV (ax b 0)),(3,tV (ax b1 0)),(15,sO l1 c r),(16,jq r),(17,cA (i:Int))]) (fun i out h=>?_) (fun e tl ih i out h=>?_) r 0 ({(⟨r⟩:aw)with Nodes:=r}:aw) ⟨M,h⟩) (bv M)
 ·obtain⟨I,h⟩:=h
  refine eQ I M<|aB<|aV<|dl<|hD<|K (iI (q:=ay) (y:=out) cJ M M M M (.tail _ (.tail _ (.head _))) (fun _ _ _ ho h=>m7 (jO ho (.head _)) h) (D M))<|aS<|aO cJ ae M<|aD 2 M<|dG ?_;exact aM<|aM<|so h▸gE M cJ M M M
 ·obtain⟨I,h⟩:=h
  refine eP I M<|aJ<|av<|aY M<|cy h fun e1 q_e1 h=>K (rU jR dR (.tail _ (.tail _ (.head _))) (D M) (D M) q_e1 (Gw I))<|cy h fun e2 q_e2 h=>K (dd (r:=ak) (i:=(i:Int)) (foff:=0) dR M M bN M (.tail _ (.tail _ (.head _))) q_e2 (D M))<|bC false dt 77<|bC false ah 27<|aC (r:=dv) (x:=ft Jg (aK none 0 (Lr.length)) (aK none 0 (vB.length))) dR Cw M fun b2=>jm M<|d6 (r' :=ak) (x' :=e2) dR M (iC M) M (D M) (D M) ?_;refine(show RG _ _ _ _ [_,_,_,_,_,_] _ from ?_);refine aS<|qe<|aS<|qe<|cb<|aJ<|cy h fun r1 q_r1 h=>cy h fun r2 q_r2 h=>cy h fun r3 q_r3 h=>cy h fun r4 q_r4 h=>cy h fun r5 q_r5 h=>?_
  refine jC 16 [tc (tV (ax b2 4)),tc (lI e2.Kinds),tc (lI r1),tc (tV (ax b2 7)),tc (lI e2.Keys),tc (lI r2),tc (tV (ax b2 8)),tc (gP (dt) e2.Aggs),([8],fun s=>tV (aK ((s.getD 0 qg).h 0).1 ((s.getD 0 qg).h 0).2 r3.length)),tc (tV (ax b2 9)),tc (gP (ah) e2.Items),([11],fun s=>tV (aK ((s.getD 0 qg).h 0).1 ((s.getD 0 qg).h 0).2 r4.length)),tc (tV (ax b2 10)),tc (gP (fU) e2.Order),tc (gP (fU) r5),tc (tV (ax b2 4))] [false,false,false,false,false,false,false,false,true,false,false,true,false,false,false,false] [fun _=>[bx ak 55 b2 e2,bx ay 39 b Ba,bx dA 39 b1 (dZ out (aK l1 c out.Nodes.length)),fi ak 55 l1 c out.Nodes],fun sg=>[fi dt 77 ((sg 8).h 0).1 ((sg 8).h 0).2 r3,bx ak 55 b2 e2,bx ay 39 b Ba,bx dA 39 b1 (dZ out (aK l1 c out.Nodes.length)),fi ak 55 l1 c out.Nodes],fun sg=>[fi ah 27 ((sg 11).h 0).1 ((sg 11).h 0).2 r4,fi dt 77 ((sg 8).h 0).1 ((sg 8).h 0).2 r3,bx ak 55 b2 e2,bx ay 39 b Ba,bx dA 39 b1 (dZ out (aK l1 c out.Nodes.length)),fi ak 55 l1 c out.Nodes]] M mixed M M M M M
   ⟨⟨[⟨5,fun _=>tV (ax b2 0),none⟩],_,0,0,M,⟨(fun _=>M),aQ⟩,M,M,M,M,M,fun _ sg _ _=>ac M (rJ 4 rX M M M)⟩,
   ⟨⟨[⟨22,fun _=>tV (ax b2 4),some 0⟩],_,0,0,M,⟨(fun _=>M),aQ⟩,M,M,M,M,M,si (fun sg=>ac M (bf eM M M ni (.head _) (D M)))⟩,
   ⟨⟨[⟨23,fun _=>H vz e2.Kinds,some 1⟩],_,0,0,M,⟨(fun _=>M),aQ⟩,M,M,M,M,M,fun _ sg _ _=>ac M (ce QV (Kv _ _ q_r1) ⟨(D M),hI,aQ⟩)⟩,
   ⟨⟨[⟨5,fun _=>tV (ax b2 0),none⟩],_,0,0,M,⟨(fun _=>M),aQ⟩,M,M,M,M,M,fun _ sg _ _=>ac M (rJ 7 qT M M M)⟩,
   ⟨⟨[⟨25,fun _=>tV (ax b2 7),some 3⟩],_,0,0,M,⟨(fun _=>M),aQ⟩,M,M,M,M,M,si (fun sg=>ac M (bf eM M M lY (.head _) (D M)))⟩,
   ⟨⟨[⟨26,fun _=>H vz e2.Keys,some 4⟩],_,0,0,M,⟨(fun _=>M),aQ⟩,M,M,M,M,M,fun _ sg _ _=>ac M (ce QV (Kv _ _ q_r2) ⟨(D M),hI,aQ⟩)⟩,
   ⟨⟨[⟨5,fun _=>tV (ax b2 0),none⟩],_,0,0,M,⟨(fun _=>M),aQ⟩,M,M,M,M,M,fun _ sg _ _=>ac M (rJ 8 nj M M M)⟩,
   ⟨⟨[⟨28,fun _=>tV (ax b2 8),some 6⟩],_,0,0,M,⟨(fun _=>M),aQ⟩,M,M,M,M,M,si (fun sg=>ac M (bf vE M M nh (.head _) (D M)))⟩,
   ⟨⟨[⟨29,fun _=>H (gy dt) e2.Aggs,some 7⟩],_,M,⟨(fun _=>M),aQ⟩,M,M,M,fun sg=>cx M (uY (xs:=[.tmp 29,.const (.int .i64 (14))]) (ts:=[H (gy dt) e2.Aggs,H cB (14:Int)]) SE (Mq _ _ q_r3) ⟨(D M),hI,aQ⟩)⟩,
   ⟨⟨[⟨5,fun _=>tV (ax b2 0),none⟩],_,0,1,M,⟨(fun _=>M),aQ⟩,M,M,M,M,M,fun _ sg _ _=>ac M (rJ 9 kM M M M)⟩,
   ⟨⟨[⟨31,fun _=>tV (ax b2 9),some 9⟩],_,0,1,M,⟨(fun _=>M),aQ⟩,M,M,M,M,M,xy (fun sg=>ac M (bf hU M M gX (.head _) (D M))) (si (fun sg=>ac M (bf hU M M gX (.tail _ (.head _)) (D M))))⟩,
   ⟨⟨[⟨32,fun _=>H vA e2.Items,some 10⟩],_,M,⟨(fun _=>M),aQ⟩,M,M,M,fun sg=>cx M (uY (xs:=[.tmp 32,.const (.int .i64 (17))]) (ts:=[H vA e2.Items,H cB (17:Int)]) SD (Mp _ _ q_r4) ⟨(D M),hI,aQ⟩)⟩,
   ⟨⟨[⟨5,fun _=>tV (ax b2 0),none⟩],_,0,2,M,⟨(fun _=>M),aQ⟩,M,M,M,M,M,fun _ sg _ _=>ac M (rJ 10 rn M M M)⟩,
   ⟨⟨[⟨34,fun _=>tV (ax b2 10),some 12⟩],_,0,2,M,⟨(fun _=>M),aQ⟩,M,M,M,M,M,xy (fun sg=>ac M (bf Bn M M lZ (.head _) (D M))) (xy (fun sg=>ac M (bf Bn M M lZ (.tail _ (.head _)) (D M))) (si (fun sg=>ac M (bf Bn M M lZ (.tail _ (.tail _ (.head _))) (D M)))))⟩,
   ⟨⟨[⟨35,fun _=>H (gy fU) e2.Order,some 13⟩],_,2,2,M,⟨(fun _=>M),aQ⟩,M,M,M,M,M,fun _ sg _ _=>ac M (ce SC (Pa _ _ q_r5) ⟨(D M),hI,aQ⟩)⟩,
   ⟨⟨[⟨5,fun _=>tV (ax b2 0),none⟩],_,0,2,M,⟨(fun _=>M),aQ⟩,M,M,M,M,M,fun _ sg _ _=>ac M (rJ 4 rX M M M)⟩,
   aQ⟩⟩⟩⟩⟩⟩⟩⟩⟩⟩⟩⟩⟩⟩⟩⟩ (fun sg=>?_)
  refine(show RG _ _ _ _ [_,_,_,_,_,_] _ from ?_);refine dl<|aO eM qC M<|bI 7 qT M<|aO eM vL M<|bI 8 nj M<|d6 vE M (qA _ _) M (D M) (Bx (D M))<|bI 9 kM M<|d6 hU M (nO _ _ _) M (D M) (Bx (D M))<|bI 10 rn M<|aO Bn y4 M<|cb<|bm<|bI 8 nj M<|K (fq vE lX (.head _) M (D M))<|K (eU rE (.tail _ (.tail _ (.head _))) (D M))<|K (cj hI)<|cb<|av<|fR (.tail _ (.tail _ (.head _))) fun hN1=>ci ?_;refine cX<|eT<|eT<|yi<|yi<|yi ?_;refine aN (jh (h3:=fun ls1 i1 n=>(r3.drop i1=ls1)/\mw (jy tl) i out ls1 i1 n=some R) (Of:=fun _ i1 n=>[bx ay 39 b Ba,bx dA 39 b1 (dZ out (aK l1 c out.Nodes.length)),fi ak 55 l1 c out.Nodes,bx dv 55 b2 (ft n (aK ((sg 8).h 0).1 ((sg 8).h 0).2 n.Aggs.length) (aK ((sg 11).h 0).1 ((sg 11).h 0).2 n.Items.length)),fi dt 77 ((sg 8).h 0).1 ((sg 8).h 0).2 n.Aggs,fi ah 27 ((sg 11).h 0).1 ((sg 11).h 0).2 n.Items]) (Gf:=fun _ i1 n=>[(2,tV (ax b 0)),(3,tV (ax b1 0)),(4,cA (i:Int)),(5,tV (ax b2 0)),(15,sO l1 c r),(16,jq r),(17,cA (i:Int)),(43,tV (aK ((sg 8).h 0).1 ((sg 8).h 0).2 r3.length)),(44,jq r3),(45,cA (i1:Int))]) (fun i1 n h=>?_) (fun e3 tl1 ih1 i1 n h=>?_) r3 0 ({({({(aa.mk e2.Op e2.A e2.B e2.Table r1 e2.Left e2.Cond r2 e2.Aggs e2.Items e2.Order e2.Limit)with Order:=r5}:aa)with Aggs:=r3}:aa)with Items:=r4}:aa) ⟨M,h⟩) (bv M)
  ·obtain⟨hx1,h⟩:=h
   refine eQ hx1 M<|aB<|bm<|bI 9 kM M<|K (fq hU lW (.tail _ (.tail _ (.tail _ (.head _)))) M (D M))<|K (eU lJ (.tail _ (.tail _ (.tail _ (.tail _ (.tail _ (.head _)))))) (D M))<|K (cj hI)<|cb<|av<|fR (.tail _ (.tail _ (.tail _ (.tail _ (.tail _ (.head _)))))) fun hN2=>?_;refine ci ?_;refine aN (jh (h3:=fun ls2 i2 n1=>(n.Items.drop i2=ls2)/\mu (jy tl) i out ls2 i2 n1=some R) (Of:=fun _ i2 n1=>[bx ay 39 b Ba,bx dA 39 b1 (dZ out (aK l1 c out.Nodes.length)),fi ak 55 l1 c out.Nodes,bx dv 55 b2 (ft n1 (aK ((sg 8).h 0).1 ((sg 8).h 0).2 n1.Aggs.length) (aK ((sg 11).h 0).1 ((sg 11).h 0).2 n1.Items.length)),fi dt 77 ((sg 8).h 0).1 ((sg 8).h 0).2 n1.Aggs,fi ah 27 ((sg 11).h 0).1 ((sg 11).h 0).2 n1.Items]) (Gf:=fun _ i2 n1=>[(2,tV (ax b 0)),(3,tV (ax b1 0)),(4,cA (i:Int)),(5,tV (ax b2 0)),(15,sO l1 c r),(16,jq r),(17,cA (i:Int)),(60,tV (aK ((sg 11).h 0).1 ((sg 11).h 0).2 n.Items.length)),(61,jq n.Items),(62,cA (i2:Int))]) (fun i2 n1 h=>?_) (fun e4 tl2 ih2 i2 n1 h=>?_) n.Items 0 n ⟨M,h⟩) (bv M)
   ·obtain⟨hx2,h⟩:=h
    refine eQ hx2 M<|aB<|aV<|bI 6 kN M<|K (bf aX M M Aw (.tail _ (.tail _ (.tail _ (.head _)))) (D M))<|eg h Sp (Ko _) (cm M) fun r6 h=>bI 6 kN M<|d7<|aO aX zU M<|cb ?_;refine aG<|bI 0 fY M<|K (fq na jz (.tail _ (.tail _ (.head _))) M (D M))<|bu M<|mz<|hD<|u0<|hD<|K (iI (q:=ak) (y:=({({({n1 with Cond:=r6}:aa)with Aggs:=n1.Aggs}:aa)with Items:=n1.Items}:aa)) dR M M M M (.tail _ (.tail _ (.head _))) (fun _ _ _ ho h=>ru (jO ho (.tail _ (.head _))) (jO ho (.head _)) h) (D M))<|K (bW jR dR (.tail _ (.tail _ (.tail _ (.tail _ (.tail _ (.head _)))))) (D M) (D M) q_e2)<|u0<|cy h fun st q_st h=>ke dR M ae M q_e2 (so q_st) (D M) (D M)<|gm (dU (so q_st)) 79 M<|oy (O' :=[fi ak 55 l1 c st,gT ah 27 ((sg 11).h 0).1 ((sg 11).h 0).2 n1.Items,gT dt 77 ((sg 8).h 0).1 ((sg 8).h 0).2 n1.Aggs,bx dv 55 b2 (ft ({n1 with Cond:=r6}:aa) (aK ((sg 8).h 0).1 ((sg 8).h 0).2 n1.Aggs.length) (aK ((sg 11).h 0).1 ((sg 11).h 0).2 n1.Items.length)),bx ay 39 b Ba,bx dA 39 b1 (dZ out (aK l1 c st.length))]) (by first|(rw [dU (so q_st)];done)|(rw [dU (so q_st)];exact M)|exact M)<|bq<|dQ I hN M<|bp<|aM ?_;refine bp<|aM<|bp<|aM<|aH<|aH ?_;exact bj (aN (ih (i+1) ({out with Nodes:=st}:aw) ⟨dC I,h⟩) (bv M))
   ·obtain⟨hx2,h⟩:=h
    refine eP hx2 M<|aJ<|av<|aY M<|cy h fun e5 q_e5 h=>K (rU lJ aX (.tail _ (.tail _ (.tail _ (.tail _ (.tail _ (.head _)))))) (D M) (D M) q_e5 (Gw hx2))<|cy h fun e6 q_e6 h=>K (dd (r:=ah) (i:=(i2:Int)) (foff:=0) aX M M bN M (.tail _ (.tail _ (.tail _ (.tail _ (.tail _ (.head _)))))) q_e6 (D M))<|aC aX cF M fun b3=>jm M<|aO aX ae M<|aD 9 M<|bq ?_;refine aB<|cy h fun r7 q_r7 h=>?_
    refine kh 6 (ts:=[tV (ax b2 9),tV (aK ((sg 11).h 0).1 ((sg 11).h 0).2 n1.Items.length),cA (i2:Int),H ah e6,H ah r7,tV (jf ((sg 11).h 0).1 ((i2:Int).toNat*1+0))]) mixed M M M
     ⟨pN 5 M M (rJ 9 kM M M M),
     ⟨eH 67 0 M M (fq hU lW (.tail _ (.tail _ (.tail _ (.head _)))) M (D M)),
     ⟨jt M M,
     ⟨pN 9 M M (oI aX M M),
     ⟨eH 70 3 M M (ce Sp (Ko _ q_r7) ⟨(D M),aQ⟩),
     ⟨gr 68 1 69 2 M M M (bW lJ aX (.tail _ (.tail _ (.tail _ (.tail _ (.tail _ (.head _)))))) (D M) (D M) q_e6),
     aQ⟩⟩⟩⟩⟩⟩ ?_
    refine u0<|cy h fun st1 q_st1 h=>ke aX M ae M q_e6 (so q_st1) (D M) (D M)<|gm (dU (so q_st1)) 68 M<|oy (O' :=[fi ah 27 ((sg 11).h 0).1 ((sg 11).h 0).2 st1,bx ay 39 b Ba,bx dA 39 b1 (dZ out (aK l1 c out.Nodes.length)),fi ak 55 l1 c out.Nodes,bx dv 55 b2 (ft n1 (aK ((sg 8).h 0).1 ((sg 8).h 0).2 n1.Aggs.length) (aK ((sg 11).h 0).1 ((sg 11).h 0).2 st1.length)),fi dt 77 ((sg 8).h 0).1 ((sg 8).h 0).2 n1.Aggs]) (by first|(rw [dU (so q_st1)];done)|(rw [dU (so q_st1)];exact M)|exact M)<|bq<|dQ hx2 hN2 M<|ki<|ki<|ki<|ki<|ki ?_;exact bj (aN (ih2 (i2+1) ({n1 with Items:=st1}:aa) ⟨dC hx2,h⟩) (bv M))
  ·obtain⟨hx1,h⟩:=h
   refine eP hx1 M<|aJ<|av<|aY M<|cy h fun e7 q_e7 h=>K (rU rE tF (.tail _ (.tail _ (.tail _ (.tail _ (.head _))))) (D M) (D M) q_e7 (Gw hx1))<|cy h fun e8 q_e8 h=>K (dd (r:=dt) (i:=(i1:Int)) (foff:=0) tF M M bN M (.tail _ (.tail _ (.tail _ (.tail _ (.head _))))) q_e8 (D M))<|aC tF Ja M fun b4=>jm M<|aO tF ae M<|aD 7 M<|bq ?_;refine aB<|cy h fun r8 q_r8 h=>?_
   refine kh 8 (ts:=[tV (ax b2 8),tV (aK ((sg 8).h 0).1 ((sg 8).h 0).2 n.Aggs.length),cA (i1:Int),bw ah e8.Arg,H ah e8.Arg,H ah r8,tV (jf ((sg 8).h 0).1 ((i1:Int).toNat*2+0)),tV (jf ((sg 8).h 0).1 ((i1:Int).toNat*2+1))]) mixed M M M
    ⟨pN 5 M M (rJ 8 nj M M M),
    ⟨eH 50 0 M M (fq vE lX (.tail _ (.tail _ (.tail _ (.head _)))) M (D M)),
    ⟨jt M M,
    ⟨pN 7 M M (nG we sF M M),
    ⟨jF 3 aX M M,
    ⟨eH 54 4 M M (ce Sp (Ko _ q_r8) ⟨(D M),aQ⟩),
    ⟨gr 51 1 52 2 M M M (bW rE tF (.tail _ (.tail _ (.tail _ (.tail _ (.head _))))) (D M) (D M) q_e8),
    ⟨eH 56 6 M M (cD (o:=(i1:Int).toNat*2+0) (n:=(i1:Int).toNat*2+1) we M (.tail _ (.tail _ (.tail _ (.tail _ (.head _))))) q_e8 (D M) M),
    aQ⟩⟩⟩⟩⟩⟩⟩⟩ ?_
   refine mz<|cy h fun st2 q_st2 h=>ke aX M DX M q_e8 (so q_st2) (D M) (D M)<|gm (dU (so q_st2)) 51 M<|oy (O' :=[fi dt 77 ((sg 8).h 0).1 ((sg 8).h 0).2 st2,bx ay 39 b Ba,bx dA 39 b1 (dZ out (aK l1 c out.Nodes.length)),fi ak 55 l1 c out.Nodes,bx dv 55 b2 (ft n (aK ((sg 8).h 0).1 ((sg 8).h 0).2 st2.length) (aK ((sg 11).h 0).1 ((sg 11).h 0).2 n.Items.length)),fi ah 27 ((sg 11).h 0).1 ((sg 11).h 0).2 n.Items]) (by first|(rw [dU (so q_st2)];done)|(rw [dU (so q_st2)];exact M)|exact M)<|bq<|dQ hx1 hN1 M<|ki<|bp<|ki<|ki<|ki<|ki ?_;exact bj (aN (ih1 (i1+1) ({n with Aggs:=st2}:aa) ⟨dC hx1,h⟩) (bv M))

end Go.Proofs.YtbmmihfagmchaaaGreat

