/- du of this claim: P10. -/
import Derived.Test.YthbdkceckjihgaaGreatDoorBbT
import Derived.Test.YthbdkceckjihgaaGreatDoorBbP9
set_option linter.all false
namespace Go.Proofs.YthbdkceckjihgaaGreatDoor
open Go
set_option maxRecDepth 100000

def VE l most{R}(h:tw l most=some R):jE aZ 22 [pE l,bd most] false aP 3 R:=by
 exact jE.of Tryz.func22 I I I fun w0 S0=>aY<|cj false aP 3<|Q (cg y6)<|bO<|aY<|jh (r:=aP) (ys:=w9) (xs:=[]) fH cF I I I I I trivial I fun l1 c=>aX I<|aX I<|bW fH I<|aX I<|Q (oQ (M I) (M I))<|cq h fun y q_y h=>Q (nP fH cF I (M I) (M I) q_y)<|cq h fun x q_x h=>d8 cF I I I I fH I I (M I) (M I) q_x fun l2 c1=>be I<|so h▸m6 I I
def Y6 l most{R}(h:tw l most=some R):cI aZ 22 [pE l,bd most] (pE R):=(VE _ _ h).spec

def Vx l most{R}(h:qc l most=some R):jE aZ 30 [fm (cG) l,bd most] false cG 110 R:=by
 exact jE.of Tryz.func30 I I I fun w0 S0=>aY<|cj false cG 110<|Q (cg y6)<|bO<|aY<|jh (r:=cG) (ys:=([]:List ce)) (xs:=[]) sF kM I I I I I trivial I fun l1 c=>aX I<|aX I<|bW sF I<|aX I<|Q (oQ (M I) (M I))<|cq h fun y q_y h=>Q (nP sF kM I (M I) (M I) q_y)<|cq h fun x q_x h=>d8 kM I I I I sF I I (M I) (M I) q_x fun l2 c1=>be I<|so h▸m6 I I
def Vw l most{R}(h:mG l most=some R):jE aZ 31 [fm (cZ) l,bd most] false cZ 113 R:=by
 exact jE.of Tryz.func31 I I I fun w0 S0=>aY<|cj false cZ 113<|Q (cg y6)<|bO<|aY<|jh (r:=cZ) (ys:=([]:List cd)) (xs:=[]) p8 kl I I I I I trivial I fun l1 c=>aX I<|aX I<|bW p8 I<|aX I<|Q (oQ (M I) (M I))<|cq h fun y q_y h=>Q (nP p8 kl I (M I) (M I) q_y)<|cq h fun x q_x h=>d8 kl I I I I p8 I I (M I) (M I) q_x fun l2 c1=>be I<|so h▸m6 I I
def Y0 l most{R}(h:mG l most=some R):cI aZ 31 [fm (cZ) l,bd most] (fm (cZ) R):=(Vw _ _ h).spec

def Zg c{R}(h:wn c=some R):cI aZ 10 [H bK c] (H bK R):=by
 refine dm Tryz.func10 I<|aY<|cK I<|aV qa sH I fun b=>bO<|aY<|ba nk eK vV I<|F8 h ac3 (Vx _ _) (dd I) fun r h l c1=>Q (bU (y:=lx (⟨r⟩:aR) (J l c1 r.length)) qa aac Co (⟨_,_,_,_,_,I,Gj,I,(Pw (M I)),I⟩))<|cj false cG 110<|aV (r:=js) (x:=lx Qs (J none 0 (([]:List ce).length))) qa Co I fun b1=>iR (r' :=js) qa I (gk I) I (M I) (M I)<|dW<|tH<|bO<|aT ?_;refine bv 0 nk I<|Q (kP vV rP (.head _) I (M I))<|Q (iv sF (.tail _ (.head _)) (M I))<|Q (bC hI)<|bO<|ai<|n9 (.tail _ (.head _)) fun hN=>bp<|ie<|ie<|ki ?_;refine ay (j8 (h2:=fun ls i out=>(r.drop i=ls)/\nf ls i out=some R) (Of:=fun _ i out=>[bx bK 24 b Qs,bx js 24 b1 (lx out (J l c1 out.Tables.length)),gb cG 110 l c1 out.Tables]) (Gf:=fun _ i out=>[(2,tV (an b 0)),(3,tV (an b1 0)),(11,sn l c1 r),(12,iK r),(13,bd (i:Int))]) (fun i out h=>?_) (fun e tl ih i out h=>?_) r 0 ({(⟨r⟩:aR)with Tables:=r}:aR) ⟨I,h⟩) (bb I)
 ·obtain⟨A,h⟩:=h
  refine dh A I<|av<|aY<|ib<|p6<|Q (qS (q:=bK) (y:=out) qa I I I I (.tail _ (.tail _ (.head _))) (fun _ _ _ ho h=>Dc (rN ho (.head _)) h) (M I))<|dW<|bL qa aj I<|cw<|cn 2 I ?_;exact aM<|aM<|so h▸sm I qa I I I
 ·obtain⟨A,h⟩:=h
  refine dg A I<|aD<|ai<|aH I<|cq h fun e1 q_e1 h=>Q (tv sF kM (.tail _ (.tail _ (.head _))) (M I) (M I) q_e1 (Km A))<|cq h fun e2 q_e2 h=>Q (dQ (r:=cG) (i:=(i:Int)) (foff:=0) kM I I cD I (.tail _ (.tail _ (.head _))) q_e2 (M I))<|aV kM zd I fun b2=>gE I<|bL kM aj I<|aK 5 I<|bz ?_;refine av<|cq h fun r1 q_r1 h=>cq h fun r2 q_r2 h=>cq h fun st q_st h=>?_
  refine ek 15 [tc (tV (an b1 0)),tc (sn l c1 out.Tables),tc (bd (i:Int)),tc (tV (an b1 0)),tc (sn l c1 out.Tables),tc (bd (i:Int)),tc (bt (eO cZ) e2.Columns),tc (fm (cZ) e2.Columns),tc (fm (cZ) r1),tc (bt Zq e2.Keys),tc (pE e2.Keys),tc (pE r2),tc (tV (dS l ((i:Int).toNat*3+0))),tc (tV (dS l ((i:Int).toNat*3+1))),tc (tR)] [false,false,false,false,false,false,false,false,false,false,false,false,false,false,true] [fun _=>[bx bK 24 b Qs,bx js 24 b1 (lx out (J l c1 out.Tables.length)),gb cG 110 l c1 out.Tables],fun sg=>[gb cG 110 l c1 st,bx bK 24 b Qs,bx js 24 b1 (lx out (J l c1 out.Tables.length))]] I mixed I I I I I
   ⟨⟨[⟨3,fun _=>tV (an b1 0),none⟩],_,0,0,I,⟨(fun _=>I),d⟩,I,I,I,I,I,fun _ sg _ _=>aa I (lv 0 nk I I I)⟩,
   ⟨⟨[⟨18,fun _=>tV (an b1 0),some 0⟩],_,0,0,I,⟨(fun _=>I),d⟩,I,I,I,I,I,fK (fun sg=>aa I (kP vV rP (.tail _ (.head _)) I (M I)))⟩,
   ⟨⟨[⟨4,fun _=>H aP (i:Int),none⟩],_,0,0,I,⟨(fun _=>I),d⟩,I,I,I,I,I,fun _ sg _ _=>aa I (gH I)⟩,
   ⟨⟨[⟨3,fun _=>tV (an b1 0),none⟩],_,0,1,I,⟨(fun _=>I),d⟩,I,I,I,I,I,fun _ sg _ _=>aa I (lv 0 nk I I I)⟩,
   ⟨⟨[⟨21,fun _=>tV (an b1 0),some 3⟩],_,0,1,I,⟨(fun _=>I),d⟩,I,I,I,I,I,um (fun sg=>aa I (kP vV rP (.tail _ (.head _)) I (M I))) (fK (fun sg=>aa I (kP vV rP (.tail _ (.tail _ (.head _))) I (M I))))⟩,
   ⟨⟨[⟨4,fun _=>H aP (i:Int),none⟩],_,0,1,I,⟨(fun _=>I),d⟩,I,I,I,I,I,fun _ sg _ _=>aa I (gH I)⟩,
   ⟨⟨[⟨5,fun _=>bt cG e2,none⟩],_,0,0,I,⟨(fun _=>I),d⟩,I,I,I,I,I,fun _ sg _ _=>aa I (oJ kR fY I I)⟩,
   ⟨⟨[⟨24,fun _=>bt (eO cZ) e2.Columns,some 6⟩],_,0,0,I,⟨(fun _=>I),d⟩,I,I,I,I,I,fun _ sg _ _=>aa I (qN q9 I I)⟩,
   ⟨⟨[⟨25,fun _=>H (eO cZ) e2.Columns,some 7⟩],_,0,0,I,⟨(fun _=>I),d⟩,I,I,I,I,I,fun _ sg _ _=>aa I (bn ac2 (Y0 _ _ q_r1) ⟨(M I),hI,d⟩)⟩,
   ⟨⟨[⟨5,fun _=>bt cG e2,none⟩],_,0,0,I,⟨(fun _=>I),d⟩,I,I,I,I,I,fun _ sg _ _=>aa I (oJ u4 pn I I)⟩,
   ⟨⟨[⟨27,fun _=>bt Dx e2.Keys,some 9⟩],_,0,0,I,⟨(fun _=>I),d⟩,I,I,I,I,I,fun _ sg _ _=>aa I (qN fL I I)⟩,
   ⟨⟨[⟨28,fun _=>H Dx e2.Keys,some 10⟩],_,0,0,I,⟨(fun _=>I),d⟩,I,I,I,I,I,fun _ sg _ _=>aa I (bn ac8 (Y6 _ _ q_r2) ⟨(M I),hI,d⟩)⟩,
   ⟨⟨[⟨19,fun _=>tV (J l c1 out.Tables.length),some 1⟩,⟨20,fun _=>H aP (i:Int),some 2⟩],_,0,0,I,⟨(fun _=>I),(fun _=>I),d⟩,I,I,I,I,I,fK (fun sg=>aa I (cy sF kM (.tail _ (.tail _ (.head _))) (M I) (M I) q_e2))⟩,
   ⟨⟨[⟨30,fun _=>tV (dS l ((i:Int).toNat*3+0)),some 12⟩],_,0,0,I,⟨(fun _=>I),d⟩,I,I,I,I,I,fK (fun sg=>aa I (dV (o:=(i:Int).toNat*3+0) (n:=(i:Int).toNat*3+1) kR I (.tail _ (.tail _ (.head _))) q_e2 (M I) I))⟩,
   ⟨⟨[⟨31,fun _=>tV (dS l ((i:Int).toNat*3+1)),some 13⟩,⟨26,fun _=>H (eO cZ) r1,some 8⟩],_,I,⟨(fun _=>I),(fun _=>I),d⟩,I,I,I,fun sg=>bS I (EffOK.fr2 (BS (r:=cG) (i:=(i:Int)) (foff:=1) q9 I BC I q_e2 (so q_st) (M I) (M I)))⟩,
   d⟩⟩⟩⟩⟩⟩⟩⟩⟩⟩⟩⟩⟩⟩⟩ (fun sg=>?_)
  refine(show RG _ _ _ _ [_,_,_] _ from ?_);refine oo (O' :=[gb cG 110 l c1 st,bx bK 24 b Qs,bx js 24 b1 (lx out (J l c1 st.length))]) (by first|(rw [iH (so q_st)];done)|(rw [iH (so q_st)];exact I)|exact I)<|cq h fun e3 q_e3 h=>Q (cy sF kM (.head _) (M I) (M I) q_e3 ((iH (so q_st)).symm))<|Q (dV (o:=(i:Int).toNat*3+0) (n:=(i:Int).toNat*3+2) u4 I (.head _) q_e3 (M I) I)<|cq h fun st1 q_st1 h=>s9 fL I MY I q_e3 (so q_st1) (M I) (M I)<|oo (O' :=[gb cG 110 l c1 st1,bx bK 24 b Qs,bx js 24 b1 (lx out (J l c1 st1.length))]) (by first|(rw [iH (so q_st1)];done)|(rw [iH (so q_st1)];exact I)|exact I)<|bz<|cR A hN I<|gu<|gu ?_;exact aS (ay (ih (i+1) ({out with Tables:=st1}:aR) ⟨cM A,h⟩) (bb I))

def Vv l most{R}(h:pi l most=some R):jE aZ 32 [fm (bh) l,bd most] false bh 55 R:=by
 exact jE.of Tryz.func32 I I I fun w0 S0=>aY<|cj false bh 55<|Q (cg y6)<|bO<|aY<|jh (r:=bh) (ys:=([]:List aQ)) (xs:=[]) wL qO I I I I I trivial I fun l1 c=>aX I<|aX I<|bW wL I<|aX I<|Q (oQ (M I) (M I))<|cq h fun y q_y h=>Q (nP wL qO I (M I) (M I) q_y)<|cq h fun x q_x h=>d8 qO I I I I wL I I (M I) (M I) q_x fun l2 c1=>be I<|so h▸m6 I I
def Vu l most{R}(h:oT l most=some R):jE aZ 33 [fm (j0) l,bd most] false j0 57 R:=by
 exact jE.of Tryz.func33 I I I fun w0 S0=>aY<|cj false j0 57<|Q (cg y6)<|bO<|aY<|jh (r:=j0) (ys:=([]:List tf)) (xs:=[]) AH xN I I I I I trivial I fun l1 c=>aX I<|aX I<|bW AH I<|aX I<|Q (oQ (M I) (M I))<|cq h fun y q_y h=>Q (nP AH xN I (M I) (M I) q_y)<|cq h fun x q_x h=>d8 xN I I I I AH I I (M I) (M I) q_x fun l2 c1=>be I<|so h▸m6 I I
def YZ l most{R}(h:oT l most=some R):cI aZ 33 [fm (j0) l,bd most] (fm (j0) R):=(Vu _ _ h).spec

def Vt l most{R}(h:qV l most=some R):jE aZ 34 [fm (d9) l,bd most] false d9 88 R:=by
 exact jE.of Tryz.func34 I I I fun w0 S0=>aY<|cj false d9 88<|Q (cg y6)<|bO<|aY<|jh (r:=d9) (ys:=([]:List fQ)) (xs:=[]) rs o3 I I I I I trivial I fun l1 c=>aX I<|aX I<|bW rs I<|aX I<|Q (oQ (M I) (M I))<|cq h fun y q_y h=>Q (nP rs o3 I (M I) (M I) q_y)<|cq h fun x q_x h=>d8 o3 I I I I rs I I (M I) (M I) q_x fun l2 c1=>be I<|so h▸m6 I I
def Vs l most{R}(h:qU l most=some R):jE aZ 35 [fm (fU) l,bd most] false fU 86 R:=by
 exact jE.of Tryz.func35 I I I fun w0 S0=>aY<|cj false fU 86<|Q (cg y6)<|bO<|aY<|jh (r:=fU) (ys:=([]:List nJ)) (xs:=[]) yV xc I I I I I trivial I fun l1 c=>aX I<|aX I<|bW yV I<|aX I<|Q (oQ (M I) (M I))<|cq h fun y q_y h=>Q (nP yV xc I (M I) (M I) q_y)<|cq h fun x q_x h=>d8 xc I I I I yV I I (M I) (M I) q_x fun l2 c1=>be I<|so h▸m6 I I
def Vr l most{R}(h:nT l most=some R):jE aZ 36 [fm (fI) l,bd most] false fI 91 R:=by
 exact jE.of Tryz.func36 I I I fun w0 S0=>aY<|cj false fI 91<|Q (cg y6)<|bO<|aY<|jh (r:=fI) (ys:=([]:List km)) (xs:=[]) y8 xM I I I I I trivial I fun l1 c=>aX I<|aX I<|bW y8 I<|aX I<|Q (oQ (M I) (M I))<|cq h fun y q_y h=>Q (nP y8 xM I (M I) (M I) q_y)<|cq h fun x q_x h=>d8 xM I I I I y8 I I (M I) (M I) q_x fun l2 c1=>be I<|so h▸m6 I I
def YY l most{R}(h:nT l most=some R):cI aZ 36 [fm (fI) l,bd most] (fm (fI) R):=(Vr _ _ h).spec

def Vn l most{R}(h:qT l most=some R):jE aZ 82 [fm (dk) l,bd most] false dk 162 R:=by
 exact jE.of Tryz.func82 I I I fun w0 S0=>aY<|cj false dk 162<|Q (cg y6)<|bO<|aY<|jh (r:=dk) (ys:=([]:List dl)) (xs:=[]) oZ lS I I I I I trivial I fun l1 c=>aX I<|aX I<|bW oZ I<|aX I<|Q (oQ (M I) (M I))<|cq h fun y q_y h=>Q (nP oZ lS I (M I) (M I) q_y)<|cq h fun x q_x h=>d8 lS I I I I oZ I I (M I) (M I) q_x fun l2 c1=>be I<|so h▸m6 I I
def Kb t{R}(h:ph t=some R):cI aZ 37 [H bI t] (H bI R):=by
 refine dm Tryz.func37 I<|aY<|cK I<|aV jY uI I fun b=>bO<|aY<|ba j5 eN sw I<|F8 h aco (Vn _ _) (dd I) fun r h l c=>Q (bU (y:=oz (⟨r⟩:dj) (J l c r.length)) jY aaa Iu (⟨_,_,_,_,_,I,K5,I,(Pw (M I)),I⟩))<|cj false dk 162<|aV (r:=mn) (x:=oz sr (J none 0 (([]:List dl).length))) jY Iu I fun b1=>iR (r' :=mn) jY I (gk I) I (M I) (M I)<|dW<|tH<|bO<|aT ?_;refine bv 0 j5 I<|Q (kP sw EP (.head _) I (M I))<|Q (iv oZ (.tail _ (.head _)) (M I))<|Q (bC hI)<|bO<|ai<|n9 (.tail _ (.head _)) fun hN=>bp<|ie<|ie<|ki ?_;refine ay (j8 (h2:=fun ls i out=>(r.drop i=ls)/\nh ls i out=some R) (Of:=fun _ i out=>[bx bI 52 b sr,bx mn 52 b1 (oz out (J l c out.Nodes.length)),gb dk 162 l c out.Nodes]) (Gf:=fun _ i out=>[(2,tV (an b 0)),(3,tV (an b1 0)),(12,iK r),(13,bd (i:Int))]) (fun i out h=>?_) (fun e tl ih i out h=>?_) r 0 ({(⟨r⟩:dj)with Nodes:=r}:dj) ⟨I,h⟩) (bb I)
 ·obtain⟨A,h⟩:=h
  refine dh A I<|av<|aY<|ib<|p6<|Q (qS (q:=bI) (y:=out) jY I I I I (.tail _ (.tail _ (.head _))) (fun _ _ _ ho h=>Hn (rN ho (.head _)) h) (M I))<|dW<|bL jY aj I<|cw<|cn 2 I ?_;exact aM<|aM<|so h▸sm I jY I I I
 ·obtain⟨A,h⟩:=h
  refine dg A I<|aD<|ai<|aH I<|bj I<|aY<|bv 0 j5 I<|Q (kP sw EP (.tail _ (.head _)) I (M I))<|aX I<|cq h fun e1 q_e1 h=>?_;refine Q (cy oZ lS (.tail _ (.tail _ (.head _))) (M I) (M I) q_e1)<|bj I<|cq h fun y q_y h=>cq h fun y1 q_y1 h=>cq h fun y2 q_y2 h=>cq h fun st q_st h=>cq h fun e2 q_e2 h=>cq h fun st1 q_st1 h=>?_
  refine ek 45 [tc (tV (dS l ((i:Int).toNat*9+0))),tc (tV (dS l ((i:Int).toNat*9+0))),tc (tV (dS l ((i:Int).toNat*9+0))),tc (tV (dS l ((i:Int).toNat*9+0))),tc (tV (dS l ((i:Int).toNat*9+0))),tc (tV (dS l ((i:Int).toNat*9+3))),tc (tV (dS l ((i:Int).toNat*9+6))),tc (H rS e1.Value.S),tc (tV (dS l ((i:Int).toNat*9+0))),tc (tV (dS l ((i:Int).toNat*9+0))),tc (tV (dS l ((i:Int).toNat*9+3))),tc (tV (dS l ((i:Int).toNat*9+6))),tc (H rS e1.Value.S),tc (iK e1.Value.S),tc (bd (min (e1.Value.S.length:Int) (60:Int))),tc (H rS y),tc (tV (dS l ((i:Int).toNat*9+0))),tc (tV (dS l ((i:Int).toNat*9+0))),tc (tV (dS l ((i:Int).toNat*9+7))),tc (H rS e1.Table),tc (tV (dS l ((i:Int).toNat*9+0))),tc (tV (dS l ((i:Int).toNat*9+0))),tc (tV (dS l ((i:Int).toNat*9+7))),tc (H rS e1.Table),tc (iK e1.Table),tc (bd (min (e1.Table.length:Int) (40:Int))),tc (H rS y1),tc (tV (dS l ((i:Int).toNat*9+0))),tc (tV (dS l ((i:Int).toNat*9+0))),tc (tV (dS l ((i:Int).toNat*9+8))),tc (H rS e1.Name),tc (tV (dS l ((i:Int).toNat*9+0))),tc (tV (dS l ((i:Int).toNat*9+0))),tc (tV (dS l ((i:Int).toNat*9+8))),tc (H rS e1.Name),tc (iK e1.Name),tc (bd (min (e1.Name.length:Int) (40:Int))),tc (H rS y2),tc (tV (dS l ((i:Int).toNat*9+0))),tc (tV (dS l ((i:Int).toNat*9+3))),tc (tV (dS l ((i:Int).toNat*9+6))),tc (tR),tc (tV (dS l ((i:Int).toNat*9+0))),tc (tV (dS l ((i:Int).toNat*9+7))),tc (tR)] [false,false,false,false,false,false,false,false,false,false,false,false,false,false,false,false,false,false,false,false,false,false,false,false,false,false,false,false,false,false,false,false,false,false,false,false,false,false,false,false,false,true,false,false,true] [fun _=>[bx bI 52 b sr,bx mn 52 b1 (oz out (J l c out.Nodes.length)),gb dk 162 l c out.Nodes],fun sg=>[gb dk 162 l c st,bx bI 52 b sr,bx mn 52 b1 (oz out (J l c out.Nodes.length))],fun sg=>[gb dk 162 l c st1,bx bI 52 b sr,bx mn 52 b1 (oz out (J l c out.Nodes.length))]] I mixed I I I I I
   ⟨⟨[⟨5,fun _=>tV (dS l ((i:Int).toNat*9+0)),none⟩],_,0,0,I,⟨(fun _=>I),d⟩,I,I,I,I,I,fun _ sg _ _=>aa I (gH I)⟩,
   ⟨⟨[⟨5,fun _=>tV (dS l ((i:Int).toNat*9+0)),none⟩],_,0,1,I,⟨(fun _=>I),d⟩,I,I,I,I,I,fun _ sg _ _=>aa I (gH I)⟩,
   ⟨⟨[⟨5,fun _=>tV (dS l ((i:Int).toNat*9+0)),none⟩],_,0,2,I,⟨(fun _=>I),d⟩,I,I,I,I,I,fun _ sg _ _=>aa I (gH I)⟩,
   ⟨⟨[⟨5,fun _=>tV (dS l ((i:Int).toNat*9+0)),none⟩],_,0,0,I,⟨(fun _=>I),d⟩,I,I,I,I,I,fun _ sg _ _=>aa I (gH I)⟩,
   ⟨⟨[⟨23,fun _=>tV (dS l ((i:Int).toNat*9+0)),some 3⟩],_,0,0,I,⟨(fun _=>I),d⟩,I,I,I,I,I,fK (fun sg=>aa I (uX (.tail _ (.tail _ (.head _))) q_e1 (M I)))⟩,
   ⟨⟨[⟨24,fun _=>tV (dS l ((i:Int).toNat*9+0)),some 4⟩],_,0,0,I,⟨(fun _=>I),d⟩,I,I,I,I,I,fK (fun sg=>aa I (dV (o:=(i:Int).toNat*9+0) (n:=(i:Int).toNat*9+3) qG I (.tail _ (.tail _ (.head _))) q_e1 (M I) I))⟩,
   ⟨⟨[⟨25,fun _=>tV (dS l ((i:Int).toNat*9+3)),some 5⟩],_,0,0,I,⟨(fun _=>I),d⟩,I,I,I,I,I,fK (fun sg=>aa I (dV (o:=(i:Int).toNat*9+3) (n:=(i:Int).toNat*9+6) pX I (.tail _ (.tail _ (.head _))) q_e1 (M I) I))⟩,
   ⟨⟨[⟨26,fun _=>tV (dS l ((i:Int).toNat*9+6)),some 6⟩],_,0,0,I,⟨(fun _=>I),d⟩,I,I,I,I,I,fK (fun sg=>aa I (dQ (r:=dk) (i:=(i:Int)) (foff:=6) jG I I (fq mq lc) I (.tail _ (.tail _ (.head _))) q_e1 (M I)))⟩,
   ⟨⟨[⟨5,fun _=>tV (dS l ((i:Int).toNat*9+0)),none⟩],_,0,0,I,⟨(fun _=>I),d⟩,I,I,I,I,I,fun _ sg _ _=>aa I (gH I)⟩,
   ⟨⟨[⟨28,fun _=>tV (dS l ((i:Int).toNat*9+0)),some 8⟩],_,0,0,I,⟨(fun _=>I),d⟩,I,I,I,I,I,fK (fun sg=>aa I (uX (.tail _ (.tail _ (.head _))) q_e1 (M I)))⟩,
   ⟨⟨[⟨29,fun _=>tV (dS l ((i:Int).toNat*9+0)),some 9⟩],_,0,0,I,⟨(fun _=>I),d⟩,I,I,I,I,I,fK (fun sg=>aa I (dV (o:=(i:Int).toNat*9+0) (n:=(i:Int).toNat*9+3) qG I (.tail _ (.tail _ (.head _))) q_e1 (M I) I))⟩,
   ⟨⟨[⟨30,fun _=>tV (dS l ((i:Int).toNat*9+3)),some 10⟩],_,0,0,I,⟨(fun _=>I),d⟩,I,I,I,I,I,fK (fun sg=>aa I (dV (o:=(i:Int).toNat*9+3) (n:=(i:Int).toNat*9+6) pX I (.tail _ (.tail _ (.head _))) q_e1 (M I) I))⟩,
   ⟨⟨[⟨31,fun _=>tV (dS l ((i:Int).toNat*9+6)),some 11⟩],_,0,0,I,⟨(fun _=>I),d⟩,I,I,I,I,I,fK (fun sg=>aa I (dQ (r:=dk) (i:=(i:Int)) (foff:=6) jG I I (fq mq lc) I (.tail _ (.tail _ (.head _))) q_e1 (M I)))⟩,
   ⟨⟨[⟨32,fun _=>H rS e1.Value.S,some 12⟩],_,0,0,I,⟨(fun _=>I),d⟩,I,I,I,I,I,fun _ sg _ _=>aa I (nQ gx (M I))⟩,
   ⟨⟨[⟨33,fun _=>H aP (e1.Value.S.length:Int),some 13⟩],_,0,0,I,⟨(fun _=>I),d⟩,I,I,I,I,I,fun _ sg _ _=>aa I (oQ (M I) hI)⟩,
   ⟨⟨[⟨27,fun _=>H rS e1.Value.S,some 7⟩,⟨34,fun _=>H aP (min (e1.Value.S.length:Int) (60:Int)),some 14⟩],_,0,0,I,⟨(fun _=>I),(fun _=>I),d⟩,I,I,I,I,I,fun _ sg _ _=>aa I (DV gx (M I) (M I) q_y)⟩,
   ⟨⟨[⟨5,fun _=>tV (dS l ((i:Int).toNat*9+0)),none⟩],_,0,0,I,⟨(fun _=>I),d⟩,I,I,I,I,I,fun _ sg _ _=>aa I (gH I)⟩,
   ⟨⟨[⟨36,fun _=>tV (dS l ((i:Int).toNat*9+0)),some 16⟩],_,0,0,I,⟨(fun _=>I),d⟩,I,I,I,I,I,fK (fun sg=>aa I (uX (.tail _ (.tail _ (.head _))) q_e1 (M I)))⟩,
   ⟨⟨[⟨37,fun _=>tV (dS l ((i:Int).toNat*9+0)),some 17⟩],_,0,0,I,⟨(fun _=>I),d⟩,I,I,I,I,I,fK (fun sg=>aa I (dV (o:=(i:Int).toNat*9+0) (n:=(i:Int).toNat*9+7) tz I (.tail _ (.tail _ (.head _))) q_e1 (M I) I))⟩,
   ⟨⟨[⟨38,fun _=>tV (dS l ((i:Int).toNat*9+7)),some 18⟩],_,0,0,I,⟨(fun _=>I),d⟩,I,I,I,I,I,fK (fun sg=>aa I (dQ (r:=dk) (i:=(i:Int)) (foff:=7) jG I I pT I (.tail _ (.tail _ (.head _))) q_e1 (M I)))⟩,
   ⟨⟨[⟨5,fun _=>tV (dS l ((i:Int).toNat*9+0)),none⟩],_,0,0,I,⟨(fun _=>I),d⟩,I,I,I,I,I,fun _ sg _ _=>aa I (gH I)⟩,
   ⟨⟨[⟨40,fun _=>tV (dS l ((i:Int).toNat*9+0)),some 20⟩],_,0,0,I,⟨(fun _=>I),d⟩,I,I,I,I,I,fK (fun sg=>aa I (uX (.tail _ (.tail _ (.head _))) q_e1 (M I)))⟩,
   ⟨⟨[⟨41,fun _=>tV (dS l ((i:Int).toNat*9+0)),some 21⟩],_,0,0,I,⟨(fun _=>I),d⟩,I,I,I,I,I,fK (fun sg=>aa I (dV (o:=(i:Int).toNat*9+0) (n:=(i:Int).toNat*9+7) tz I (.tail _ (.tail _ (.head _))) q_e1 (M I) I))⟩,
   ⟨⟨[⟨42,fun _=>tV (dS l ((i:Int).toNat*9+7)),some 22⟩],_,0,0,I,⟨(fun _=>I),d⟩,I,I,I,I,I,fK (fun sg=>aa I (dQ (r:=dk) (i:=(i:Int)) (foff:=7) jG I I pT I (.tail _ (.tail _ (.head _))) q_e1 (M I)))⟩,
   ⟨⟨[⟨43,fun _=>H rS e1.Table,some 23⟩],_,0,1,I,⟨(fun _=>I),d⟩,I,I,I,I,I,fun _ sg _ _=>aa I (nQ gx (M I))⟩,
   ⟨⟨[⟨44,fun _=>H aP (e1.Table.length:Int),some 24⟩],_,0,1,I,⟨(fun _=>I),d⟩,I,I,I,I,I,fun _ sg _ _=>aa I (oQ (M I) hI)⟩,
   ⟨⟨[⟨39,fun _=>H rS e1.Table,some 19⟩,⟨45,fun _=>H aP (min (e1.Table.length:Int) (40:Int)),some 25⟩],_,0,1,I,⟨(fun _=>I),(fun _=>I),d⟩,I,I,I,I,I,fun _ sg _ _=>aa I (DV gx (M I) (M I) q_y1)⟩,
   ⟨⟨[⟨5,fun _=>tV (dS l ((i:Int).toNat*9+0)),none⟩],_,0,0,I,⟨(fun _=>I),d⟩,I,I,I,I,I,fun _ sg _ _=>aa I (gH I)⟩,
   ⟨⟨[⟨47,fun _=>tV (dS l ((i:Int).toNat*9+0)),some 27⟩],_,0,0,I,⟨(fun _=>I),d⟩,I,I,I,I,I,fK (fun sg=>aa I (uX (.tail _ (.tail _ (.head _))) q_e1 (M I)))⟩,
   ⟨⟨[⟨48,fun _=>tV (dS l ((i:Int).toNat*9+0)),some 28⟩],_,0,0,I,⟨(fun _=>I),d⟩,I,I,I,I,I,fK (fun sg=>aa I (dV (o:=(i:Int).toNat*9+0) (n:=(i:Int).toNat*9+8) qF I (.tail _ (.tail _ (.head _))) q_e1 (M I) I))⟩,
   ⟨⟨[⟨49,fun _=>tV (dS l ((i:Int).toNat*9+8)),some 29⟩],_,0,0,I,⟨(fun _=>I),d⟩,I,I,I,I,I,fK (fun sg=>aa I (dQ (r:=dk) (i:=(i:Int)) (foff:=8) jG I I nj I (.tail _ (.tail _ (.head _))) q_e1 (M I)))⟩,
   ⟨⟨[⟨5,fun _=>tV (dS l ((i:Int).toNat*9+0)),none⟩],_,0,0,I,⟨(fun _=>I),d⟩,I,I,I,I,I,fun _ sg _ _=>aa I (gH I)⟩,
   ⟨⟨[⟨51,fun _=>tV (dS l ((i:Int).toNat*9+0)),some 31⟩],_,0,0,I,⟨(fun _=>I),d⟩,I,I,I,I,I,fK (fun sg=>aa I (uX (.tail _ (.tail _ (.head _))) q_e1 (M I)))⟩,
   ⟨⟨[⟨52,fun _=>tV (dS l ((i:Int).toNat*9+0)),some 32⟩],_,0,0,I,⟨(fun _=>I),d⟩,I,I,I,I,I,fK (fun sg=>aa I (dV (o:=(i:Int).toNat*9+0) (n:=(i:Int).toNat*9+8) qF I (.tail _ (.tail _ (.head _))) q_e1 (M I) I))⟩,
   ⟨⟨[⟨53,fun _=>tV (dS l ((i:Int).toNat*9+8)),some 33⟩],_,0,0,I,⟨(fun _=>I),d⟩,I,I,I,I,I,fK (fun sg=>aa I (dQ (r:=dk) (i:=(i:Int)) (foff:=8) jG I I nj I (.tail _ (.tail _ (.head _))) q_e1 (M I)))⟩,
   ⟨⟨[⟨54,fun _=>H rS e1.Name,some 34⟩],_,0,2,I,⟨(fun _=>I),d⟩,I,I,I,I,I,fun _ sg _ _=>aa I (nQ gx (M I))⟩,
   ⟨⟨[⟨55,fun _=>H aP (e1.Name.length:Int),some 35⟩],_,0,2,I,⟨(fun _=>I),d⟩,I,I,I,I,I,fun _ sg _ _=>aa I (oQ (M I) hI)⟩,
   ⟨⟨[⟨50,fun _=>H rS e1.Name,some 30⟩,⟨56,fun _=>H aP (min (e1.Name.length:Int) (40:Int)),some 36⟩],_,0,2,I,⟨(fun _=>I),(fun _=>I),d⟩,I,I,I,I,I,fun _ sg _ _=>aa I (DV gx (M I) (M I) q_y2)⟩,
   ⟨⟨[⟨20,fun _=>tV (dS l ((i:Int).toNat*9+0)),some 0⟩],_,0,0,I,⟨(fun _=>I),d⟩,I,I,I,I,I,fK (fun sg=>aa I (uX (.tail _ (.tail _ (.head _))) q_e1 (M I)))⟩,
   ⟨⟨[⟨58,fun _=>tV (dS l ((i:Int).toNat*9+0)),some 38⟩],_,0,0,I,⟨(fun _=>I),d⟩,I,I,I,I,I,fK (fun sg=>aa I (dV (o:=(i:Int).toNat*9+0) (n:=(i:Int).toNat*9+3) qG I (.tail _ (.tail _ (.head _))) q_e1 (M I) I))⟩,
   ⟨⟨[⟨59,fun _=>tV (dS l ((i:Int).toNat*9+3)),some 39⟩],_,0,0,I,⟨(fun _=>I),d⟩,I,I,I,I,I,fK (fun sg=>aa I (dV (o:=(i:Int).toNat*9+3) (n:=(i:Int).toNat*9+6) pX I (.tail _ (.tail _ (.head _))) q_e1 (M I) I))⟩,
   ⟨⟨[⟨60,fun _=>tV (dS l ((i:Int).toNat*9+6)),some 40⟩,⟨35,fun _=>H rS y,some 15⟩],_,I,⟨(fun _=>I),(fun _=>I),d⟩,I,I,I,fun sg=>bS I (EffOK.fr2 (BS (r:=dk) (i:=(i:Int)) (foff:=6) jG I (gm mq QM Gq) I q_e1 (so q_st) (M I) (M I)))⟩,
   ⟨⟨[⟨21,fun _=>tV (dS l ((i:Int).toNat*9+0)),some 1⟩],_,1,1,I,⟨(fun _=>I),d⟩,I,I,I,I,I,fK (fun sg=>aa I (uX (.head _) q_e2 (M I)))⟩,
   ⟨⟨[⟨61,fun _=>tV (dS l ((i:Int).toNat*9+0)),some 42⟩],_,1,1,I,⟨(fun _=>I),d⟩,I,I,I,I,I,fK (fun sg=>aa I (dV (o:=(i:Int).toNat*9+0) (n:=(i:Int).toNat*9+7) tz I (.head _) q_e2 (M I) I))⟩,
   ⟨⟨[⟨62,fun _=>tV (dS l ((i:Int).toNat*9+7)),some 43⟩,⟨46,fun _=>H rS y1,some 26⟩],_,I,⟨(fun _=>I),(fun _=>I),d⟩,I,I,I,fun sg=>bS I (BS (r:=dk) (i:=(i:Int)) (foff:=7) jG I QL I q_e2 (so q_st1) (M I) (M I))⟩,
   d⟩⟩⟩⟩⟩⟩⟩⟩⟩⟩⟩⟩⟩⟩⟩⟩⟩⟩⟩⟩⟩⟩⟩⟩⟩⟩⟩⟩⟩⟩⟩⟩⟩⟩⟩⟩⟩⟩⟩⟩⟩⟩⟩⟩⟩ (fun sg=>?_)
  refine(show RG _ _ _ _ [_,_,_] _ from ?_);refine oo (O' :=[gb dk 162 l c st1,bx bI 52 b sr,bx mn 52 b1 (oz out (J l c st1.length))]) (by first|(rw [iH (so q_st1),iH (so q_st)];done)|(rw [iH (so q_st1),iH (so q_st)];exact I)|exact I)<|cq h fun e3 q_e3 h=>Q (uX (.head _) q_e3 (M I))<|Q (dV (o:=(i:Int).toNat*9+0) (n:=(i:Int).toNat*9+8) qF I (.head _) q_e3 (M I) I)<|cq h fun st2 q_st2 h=>s9 jG I IF I q_e3 (so q_st2) (M I) (M I)<|oo (O' :=[gb dk 162 l c st2,bx bI 52 b sr,bx mn 52 b1 (oz out (J l c st2.length))]) (by first|(rw [iH (so q_st2)];done)|(rw [iH (so q_st2)];exact I)|exact I)<|bz<|cR A hN I<|gu<|gu ?_;exact aS (ay (ih (i+1) ({out with Nodes:=st2}:dj) ⟨cM A,h⟩) (bb I))

def TD q{R}(h:xn q=some R):cI aZ 11 [H cv q] (H cv R):=by
 refine dm Tryz.func11 I<|aY<|AB (M I) I fun b=>aV Bx F1 I fun b1=>bO<|aD<|cq h fun r q_r h=>cq h fun r1 q_r1 h=>?_
 refine ek 7 [tc (tV (an b 0)),tc (fm (bh) q.Selects),([2],fun s=>tV (J ((s.getD 0 oF).h 0).1 ((s.getD 0 oF).h 0).2 r.length)),tc (tV (an b 1)),tc (fm (j0) q.Keys),tc (fm (j0) r1),tc (tV (an b 0))] [false,false,true,false,false,false,false] [fun _=>[bx cv 31 b1 F4,bx cv 31 b q],fun sg=>[gb bh 55 ((sg 2).h 0).1 ((sg 2).h 0).2 r,bx cv 31 b1 F4,bx cv 31 b q]] I mixed I I I I I
  ⟨⟨[⟨1,fun _=>tV (an b 0),none⟩],_,0,0,I,⟨(fun _=>I),d⟩,I,I,I,I,I,fun _ sg _ _=>aa I (lv 0 uA I I I)⟩,
  ⟨⟨[⟨9,fun _=>tV (an b 0),some 0⟩],_,0,0,I,⟨(fun _=>I),d⟩,I,I,I,I,I,fK (fun sg=>aa I (bB E8 I I nU (.tail _ (.head _)) (M I)))⟩,
  ⟨⟨[⟨10,fun _=>H (eO bh) q.Selects,some 1⟩],_,I,⟨(fun _=>I),d⟩,I,I,I,fun sg=>bS I (Ek (xs:=[.tmp 10,.const (.int .i64 (4))]) (ts:=[H (eO bh) q.Selects,H aP (4:Int)]) ac1 (Vv _ _ q_r) ⟨(M I),hI,d⟩)⟩,
  ⟨⟨[⟨1,fun _=>tV (an b 0),none⟩],_,0,1,I,⟨(fun _=>I),d⟩,I,I,I,I,I,fun _ sg _ _=>aa I (lv 1 yi I I I)⟩,
  ⟨⟨[⟨12,fun _=>tV (an b 1),some 3⟩],_,0,1,I,⟨(fun _=>I),d⟩,I,I,I,I,I,um (fun sg=>aa I (bB H0 I I pp (.tail _ (.head _)) (M I))) (fK (fun sg=>aa I (bB H0 I I pp (.tail _ (.tail _ (.head _))) (M I))))⟩,
  ⟨⟨[⟨13,fun _=>H (eO j0) q.Keys,some 4⟩],_,1,1,I,⟨(fun _=>I),d⟩,I,I,I,I,I,fun _ sg _ _=>aa I (bn ac0 (YZ _ _ q_r1) ⟨(M I),hI,d⟩)⟩,
  ⟨⟨[⟨1,fun _=>tV (an b 0),none⟩],_,1,1,I,⟨(fun _=>I),d⟩,I,I,I,I,I,fun _ sg _ _=>aa I (lv 0 uA I I I)⟩,
  d⟩⟩⟩⟩⟩⟩⟩ (fun sg=>?_)
 refine(show RG _ _ _ _ [_,_,_] _ from ?_);refine ib<|iR E8 I (By q _) I (M I) (Pw (M I))<|bv 1 yi I<|bL H0 JG I<|bO<|aT<|bv 0 uA I<|Q (kP E8 C5 (.head _) I (M I))<|Q (iv wL (.tail _ (.head _)) (M I))<|Q (bC hI)<|bO<|ai<|n9 (.tail _ (.head _)) fun hN=>bp<|ie<|ie<|ki ?_;refine ay (j8 (h2:=fun ls i q1=>(r.drop i=ls)/\ly ls i q1=some R) (Of:=fun _ i q1=>[bx cv 31 b1 F4,bx kc 31 b (lZ q1 (J ((sg 2).h 0).1 ((sg 2).h 0).2 q1.Selects.length)),gb bh 55 ((sg 2).h 0).1 ((sg 2).h 0).2 q1.Selects]) (Gf:=fun _ i q1=>[(1,tV (an b 0)),(2,tV (an b1 0)),(18,tV (J ((sg 2).h 0).1 ((sg 2).h 0).2 r.length)),(19,iK r),(20,bd (i:Int))]) (fun i q1 h=>?_) (fun e tl ih i q1 h=>?_) r 0 ({({q with Keys:=r1}:cu)with Selects:=r}:cu) ⟨I,h⟩) (bb I)
 ·obtain⟨A,h⟩:=h
  refine dh A I<|av<|aY<|ib<|p6<|Q (qS (q:=cv) (y:=q1) Bx I I I I (.tail _ (.tail _ (.head _))) (fun _ _ _ ho h=>Fn (rN ho (.head _)) h) (M I))<|dW<|bL Bx aj I<|cw<|cn 2 I ?_;exact aM<|aM<|so h▸sm I Bx I I I
 ·obtain⟨A,h⟩:=h
  refine dg A I<|aD<|ai<|aH I<|cq h fun e1 q_e1 h=>Q (tv wL qO (.tail _ (.tail _ (.head _))) (M I) (M I) q_e1 (Km A))<|cq h fun e2 q_e2 h=>Q (dQ (r:=bh) (i:=(i:Int)) (foff:=0) qO I I cD I (.tail _ (.tail _ (.head _))) q_e2 (M I))<|cj false d9 88<|cj false fU 86<|aV (r:=em) (x:=iF (⟨false,false,[],(⟨[],[]⟩:ef),[],sr,sr,[]⟩:aQ) (J none 0 (([]:List fQ).length)) (J none 0 (([]:List nJ).length))) qO HW I fun b2=>gE I<|iR (r' :=bh) (x' :=e2) qO I (gk I) I (M I) (M I) ?_;refine(show RG _ _ _ _ [_,_,_,_,_,_] _ from ?_);refine dW<|tH<|dW<|tH<|bO<|aD<|cq h fun r2 q_r2 h=>cq h fun r3 q_r3 h=>cq h fun r4 q_r4 h=>?_
  refine ek 10 [tc (tV (an b2 2)),tc (fm (d9) e2.Items),([2],fun s=>tV (J ((s.getD 0 oF).h 0).1 ((s.getD 0 oF).h 0).2 r2.length)),tc (tV (an b2 5)),tc (fm (fU) e2.Joins),([5],fun s=>tV (J ((s.getD 0 oF).h 0).1 ((s.getD 0 oF).h 0).2 r3.length)),tc (tV (an b2 8)),tc (fm (fI) e2.Group),tc (fm (fI) r4),tc (tV (an b2 2))] [false,false,true,false,false,true,false,false,false,false] [fun _=>[bx bh 55 b2 e2,bx cv 31 b1 F4,bx kc 31 b (lZ q1 (J ((sg 2).h 0).1 ((sg 2).h 0).2 q1.Selects.length)),gb bh 55 ((sg 2).h 0).1 ((sg 2).h 0).2 q1.Selects],fun sg1=>[gb d9 88 ((sg1 2).h 0).1 ((sg1 2).h 0).2 r2,bx bh 55 b2 e2,bx cv 31 b1 F4,bx kc 31 b (lZ q1 (J ((sg 2).h 0).1 ((sg 2).h 0).2 q1.Selects.length)),gb bh 55 ((sg 2).h 0).1 ((sg 2).h 0).2 q1.Selects],fun sg1=>[gb fU 86 ((sg1 5).h 0).1 ((sg1 5).h 0).2 r3,gb d9 88 ((sg1 2).h 0).1 ((sg1 2).h 0).2 r2,bx bh 55 b2 e2,bx cv 31 b1 F4,bx kc 31 b (lZ q1 (J ((sg 2).h 0).1 ((sg 2).h 0).2 q1.Selects.length)),gb bh 55 ((sg 2).h 0).1 ((sg 2).h 0).2 q1.Selects]] I mixed I I I I I
   ⟨⟨[⟨4,fun _=>tV (an b2 0),none⟩],_,0,0,I,⟨(fun _=>I),d⟩,I,I,I,I,I,fun _ sg1 _ _=>aa I (lv 2 qe I I I)⟩,
   ⟨⟨[⟨25,fun _=>tV (an b2 2),some 0⟩],_,0,0,I,⟨(fun _=>I),d⟩,I,I,I,I,I,fK (fun sg1=>aa I (bB AL I I jb (.head _) (M I)))⟩,
   ⟨⟨[⟨26,fun _=>H (eO d9) e2.Items,some 1⟩],_,I,⟨(fun _=>I),d⟩,I,I,I,fun sg1=>bS I (Ek (xs:=[.tmp 26,.const (.int .i64 (7))]) (ts:=[H (eO d9) e2.Items,H aP (7:Int)]) acZ (Vt _ _ q_r2) ⟨(M I),hI,d⟩)⟩,
   ⟨⟨[⟨4,fun _=>tV (an b2 0),none⟩],_,0,1,I,⟨(fun _=>I),d⟩,I,I,I,I,I,fun _ sg1 _ _=>aa I (lv 5 wU I I I)⟩,
   ⟨⟨[⟨28,fun _=>tV (an b2 5),some 3⟩],_,0,1,I,⟨(fun _=>I),d⟩,I,I,I,I,I,um (fun sg1=>aa I (bB Gd I I nH (.head _) (M I))) (fK (fun sg1=>aa I (bB Gd I I nH (.tail _ (.head _)) (M I))))⟩,
   ⟨⟨[⟨29,fun _=>H (eO fU) e2.Joins,some 4⟩],_,I,⟨(fun _=>I),d⟩,I,I,I,fun sg1=>bS I (Ek (xs:=[.tmp 29,.const (.int .i64 (3))]) (ts:=[H (eO fU) e2.Joins,H aP (3:Int)]) acY (Vs _ _ q_r3) ⟨(M I),hI,d⟩)⟩,
   ⟨⟨[⟨4,fun _=>tV (an b2 0),none⟩],_,0,2,I,⟨(fun _=>I),d⟩,I,I,I,I,I,fun _ sg1 _ _=>aa I (lv 8 wS I I I)⟩,
   ⟨⟨[⟨31,fun _=>tV (an b2 8),some 6⟩],_,0,2,I,⟨(fun _=>I),d⟩,I,I,I,I,I,um (fun sg1=>aa I (bB E6 I I kH (.head _) (M I))) (um (fun sg1=>aa I (bB E6 I I kH (.tail _ (.head _)) (M I))) (fK (fun sg1=>aa I (bB E6 I I kH (.tail _ (.tail _ (.head _))) (M I)))))⟩,
   ⟨⟨[⟨32,fun _=>H (eO fI) e2.Group,some 7⟩],_,2,2,I,⟨(fun _=>I),d⟩,I,I,I,I,I,fun _ sg1 _ _=>aa I (bn acX (YY _ _ q_r4) ⟨(M I),hI,d⟩)⟩,
   ⟨⟨[⟨4,fun _=>tV (an b2 0),none⟩],_,1,2,I,⟨(fun _=>I),d⟩,I,I,I,I,I,fun _ sg1 _ _=>aa I (lv 2 qe I I I)⟩,
   d⟩⟩⟩⟩⟩⟩⟩⟩⟩⟩ (fun sg1=>?_)
  refine(show RG _ _ _ _ [_,_,_,_,_,_] _ from ?_);refine ib<|iR AL I (AM e2 _) I (M I) (Pw (M I))<|bv 5 wU I<|iR Gd I (xd e2 _ _) I (M I) (Pw (M I))<|bv 8 wS I<|bL E6 E9 I<|bO<|aT<|bv 2 qe I<|Q (kP AL yN (.head _) I (M I))<|Q (iv rs (.tail _ (.tail _ (.head _))) (M I))<|Q (bC hI)<|bO<|ai<|n9 (.tail _ (.tail _ (.head _))) fun hN1=>bp<|ie<|ki<|ki<|vi ?_;refine vi<|vi ?_;refine ay (j8 (h2:=fun ls1 i1 s=>(r2.drop i1=ls1)/\pR (ly tl) i q1 ls1 i1 s=some R) (Of:=fun _ i1 s=>[bx cv 31 b1 F4,bx kc 31 b (lZ q1 (J ((sg 2).h 0).1 ((sg 2).h 0).2 q1.Selects.length)),gb bh 55 ((sg 2).h 0).1 ((sg 2).h 0).2 q1.Selects,bx em 55 b2 (iF s (J ((sg1 2).h 0).1 ((sg1 2).h 0).2 s.Items.length) (J ((sg1 5).h 0).1 ((sg1 5).h 0).2 s.Joins.length)),gb d9 88 ((sg1 2).h 0).1 ((sg1 2).h 0).2 s.Items,gb fU 86 ((sg1 5).h 0).1 ((sg1 5).h 0).2 s.Joins]) (Gf:=fun _ i1 s=>[(1,tV (an b 0)),(2,tV (an b1 0)),(3,bd (i:Int)),(4,tV (an b2 0)),(18,tV (J ((sg 2).h 0).1 ((sg 2).h 0).2 r.length)),(19,iK r),(20,bd (i:Int)),(38,tV (J ((sg1 2).h 0).1 ((sg1 2).h 0).2 r2.length)),(39,iK r2),(40,bd (i1:Int))]) (fun i1 s h=>?_) (fun e3 tl1 ih1 i1 s h=>?_) r2 0 ({({({e2 with Group:=r4}:aQ)with Items:=r2}:aQ)with Joins:=r3}:aQ) ⟨I,h⟩) (bb I)
  ·obtain⟨hx1,h⟩:=h
   refine dh hx1 I<|av<|aT<|bv 5 wU I<|Q (kP Gd yM (.tail _ (.tail _ (.tail _ (.head _)))) I (M I))<|Q (iv yV (.tail _ (.tail _ (.tail _ (.tail _ (.tail _ (.head _)))))) (M I))<|Q (bC hI)<|bO<|ai<|n9 (.tail _ (.tail _ (.tail _ (.tail _ (.tail _ (.head _)))))) fun hN2=>?_;refine bp ?_;refine ay (j8 (h2:=fun ls2 i2 s1=>(s.Joins.drop i2=ls2)/\pQ (ly tl) i q1 ls2 i2 s1=some R) (Of:=fun _ i2 s1=>[bx cv 31 b1 F4,bx kc 31 b (lZ q1 (J ((sg 2).h 0).1 ((sg 2).h 0).2 q1.Selects.length)),gb bh 55 ((sg 2).h 0).1 ((sg 2).h 0).2 q1.Selects,bx em 55 b2 (iF s1 (J ((sg1 2).h 0).1 ((sg1 2).h 0).2 s1.Items.length) (J ((sg1 5).h 0).1 ((sg1 5).h 0).2 s1.Joins.length)),gb d9 88 ((sg1 2).h 0).1 ((sg1 2).h 0).2 s1.Items,gb fU 86 ((sg1 5).h 0).1 ((sg1 5).h 0).2 s1.Joins]) (Gf:=fun _ i2 s1=>[(1,tV (an b 0)),(2,tV (an b1 0)),(3,bd (i:Int)),(4,tV (an b2 0)),(18,tV (J ((sg 2).h 0).1 ((sg 2).h 0).2 r.length)),(19,iK r),(20,bd (i:Int)),(55,tV (J ((sg1 5).h 0).1 ((sg1 5).h 0).2 s.Joins.length)),(56,iK s.Joins),(57,bd (i2:Int))]) (fun i2 s1 h=>?_) (fun e4 tl2 ih2 i2 s1 h=>?_) s.Joins 0 s ⟨I,h⟩) (bb I)
   ·obtain⟨hx2,h⟩:=h
    refine dh hx2 I<|av<|aD<|cq h fun r5 q_r5 h=>cq h fun r6 q_r6 h=>?_
    refine xE 7 (ts:=[tV (an b2 6),H bI s1.Where,H bI r5,tV (an b2 7),H bI s1.Having,H bI r6,tV (an b2 6)]) mixed I I I
     ⟨ug 4 I I (lv 6 zE I I I),
     ⟨ga 71 0 I I (bB (r:=em) (x:=iF s1 (J ((sg1 2).h 0).1 ((sg1 2).h 0).2 s1.Items.length) (J ((sg1 5).h 0).1 ((sg1 5).h 0).2 s1.Joins.length)) jY I I Fl (.tail _ (.tail _ (.tail _ (.head _)))) (M I)),
     ⟨ga 72 1 I I (bn WB (Kb _ q_r5) ⟨(M I),d⟩),
     ⟨ug 4 I I (lv 7 wT I I I),
     ⟨ga 74 3 I I (bB (r:=em) (x:=iF s1 (J ((sg1 2).h 0).1 ((sg1 2).h 0).2 s1.Items.length) (J ((sg1 5).h 0).1 ((sg1 5).h 0).2 s1.Joins.length)) jY I I Fk (.tail _ (.tail _ (.tail _ (.head _)))) (M I)),
     ⟨ga 75 4 I I (bn WB (Kb _ q_r6) ⟨(M I),d⟩),
     ⟨ug 4 I I (lv 6 zE I I I),
     d⟩⟩⟩⟩⟩⟩⟩ ?_
    refine kh<|bL jY Fb I<|bv 7 wT I<|bL jY Fa I<|bO<|aJ<|bv 0 uA I<|Q (kP E8 C5 (.tail _ (.tail _ (.head _))) I (M I))<|aX I<|p5<|p6<|Es<|p6<|Q (qS (q:=bh) (y:=({({({({s1 with Where:=r5}:aQ)with Having:=r6}:aQ)with Items:=s1.Items}:aQ)with Joins:=s1.Joins}:aQ)) qO I I I I (.tail _ (.tail _ (.head _))) (fun _ _ _ ho h=>BT (rN ho (.tail _ (.head _))) (rN ho (.head _)) h) (M I))<|Q (cy wL qO (.tail _ (.tail _ (.tail _ (.tail _ (.tail _ (.head _)))))) (M I) (M I) q_e2)<|Es<|cq h fun st q_st h=>s9 qO I aj I q_e2 (so q_st) (M I) (M I)<|kW (iH (so q_st)) 80 I<|oo (O' :=[gb bh 55 ((sg 2).h 0).1 ((sg 2).h 0).2 st,K fU 86 ((sg1 5).h 0).1 ((sg1 5).h 0).2 s1.Joins,K d9 88 ((sg1 2).h 0).1 ((sg1 2).h 0).2 s1.Items,bx em 55 b2 (iF ({({s1 with Where:=r5}:aQ)with Having:=r6}:aQ) (J ((sg1 2).h 0).1 ((sg1 2).h 0).2 s1.Items.length) (J ((sg1 5).h 0).1 ((sg1 5).h 0).2 s1.Joins.length)),bx cv 31 b1 F4,bx kc 31 b (lZ q1 (J ((sg 2).h 0).1 ((sg 2).h 0).2 st.length))]) (by first|(rw [iH (so q_st)];done)|(rw [iH (so q_st)];exact I)|exact I)<|bz<|bq<|av ?_;refine aJ<|Q (zin (PV A hN) I)<|aX I<|bz<|dM<|aM<|dM<|aM<|dM<|aM<|gu<|gu ?_;exact aS (ay (ih (i+1) ({q1 with Selects:=st}:cu) ⟨cM A,h⟩) (bb I))
   ·obtain⟨hx2,h⟩:=h
    refine dg hx2 I<|aD<|ai<|aH I<|cq h fun e5 q_e5 h=>Q (tv yV xc (.tail _ (.tail _ (.tail _ (.tail _ (.tail _ (.head _)))))) (M I) (M I) q_e5 (Km hx2))<|cq h fun e6 q_e6 h=>Q (dQ (r:=fU) (i:=(i2:Int)) (foff:=0) xc I I cD I (.tail _ (.tail _ (.tail _ (.tail _ (.tail _ (.head _)))))) q_e6 (M I))<|aV xc Cq I fun b3=>gE I<|bL xc aj I<|aK 8 I<|bz ?_;refine av<|cq h fun r7 q_r7 h=>?_
    refine xE 8 (ts:=[tV (an b2 5),tV (J ((sg1 5).h 0).1 ((sg1 5).h 0).2 s1.Joins.length),bd (i2:Int),bt bI e6.On,H bI e6.On,H bI r7,tV (dS ((sg1 5).h 0).1 ((i2:Int).toNat*4+0)),tV (dS ((sg1 5).h 0).1 ((i2:Int).toNat*4+3))]) mixed I I I
     ⟨ug 4 I I (lv 5 wU I I I),
     ⟨ga 62 0 I I (kP Gd yM (.tail _ (.tail _ (.tail _ (.head _)))) I (M I)),
     ⟨f8 I I,
     ⟨ug 8 I I (oJ Eb xv I I),
     ⟨jX 3 jY I I,
     ⟨ga 66 4 I I (bn WB (Kb _ q_r7) ⟨(M I),d⟩),
     ⟨fg 63 1 64 2 I I I (cy yV xc (.tail _ (.tail _ (.tail _ (.tail _ (.tail _ (.head _)))))) (M I) (M I) q_e6),
     ⟨ga 68 6 I I (dV (o:=(i2:Int).toNat*4+0) (n:=(i2:Int).toNat*4+3) Eb I (.tail _ (.tail _ (.tail _ (.tail _ (.tail _ (.head _)))))) q_e6 (M I) I),
     d⟩⟩⟩⟩⟩⟩⟩⟩ ?_
    refine Es<|cq h fun st1 q_st1 h=>s9 jY I QQ I q_e6 (so q_st1) (M I) (M I)<|kW (iH (so q_st1)) 63 I<|oo (O' :=[gb fU 86 ((sg1 5).h 0).1 ((sg1 5).h 0).2 st1,bx cv 31 b1 F4,bx kc 31 b (lZ q1 (J ((sg 2).h 0).1 ((sg 2).h 0).2 q1.Selects.length)),gb bh 55 ((sg 2).h 0).1 ((sg 2).h 0).2 q1.Selects,bx em 55 b2 (iF s1 (J ((sg1 2).h 0).1 ((sg1 2).h 0).2 s1.Items.length) (J ((sg1 5).h 0).1 ((sg1 5).h 0).2 st1.length)),gb d9 88 ((sg1 2).h 0).1 ((sg1 2).h 0).2 s1.Items]) (by first|(rw [iH (so q_st1)];done)|(rw [iH (so q_st1)];exact I)|exact I)<|bz<|cR hx2 hN2 I<|fG<|fG<|fG<|fG<|fG ?_;exact aS (ay (ih2 (i2+1) ({s1 with Joins:=st1}:aQ) ⟨cM hx2,h⟩) (bb I))
  ·obtain⟨hx1,h⟩:=h
   refine dg hx1 I<|aD<|ai<|aH I<|cq h fun e7 q_e7 h=>Q (tv rs o3 (.tail _ (.tail _ (.tail _ (.tail _ (.head _))))) (M I) (M I) q_e7 (Km hx1))<|cq h fun e8 q_e8 h=>Q (dQ (r:=d9) (i:=(i1:Int)) (foff:=0) o3 I I cD I (.tail _ (.tail _ (.tail _ (.tail _ (.head _))))) q_e8 (M I))<|aV o3 th I fun b4=>gE I<|bL o3 aj I<|aK 6 I<|bz ?_;refine av<|cq h fun r8 q_r8 h=>?_
   refine xE 8 (ts:=[tV (an b2 2),tV (J ((sg1 2).h 0).1 ((sg1 2).h 0).2 s.Items.length),bd (i1:Int),bt bI e8.Tree,H bI e8.Tree,H bI r8,tV (dS ((sg1 2).h 0).1 ((i1:Int).toNat*2+0)),tV (dS ((sg1 2).h 0).1 ((i1:Int).toNat*2+0))]) mixed I I I
    ⟨ug 4 I I (lv 2 qe I I I),
    ⟨ga 45 0 I I (kP AL yN (.tail _ (.tail _ (.tail _ (.head _)))) I (M I)),
    ⟨f8 I I,
    ⟨ug 6 I I (oJ rU lN I I),
    ⟨jX 3 jY I I,
    ⟨ga 49 4 I I (bn WB (Kb _ q_r8) ⟨(M I),d⟩),
    ⟨fg 46 1 47 2 I I I (cy rs o3 (.tail _ (.tail _ (.tail _ (.tail _ (.head _))))) (M I) (M I) q_e8),
    ⟨ga 51 6 I I (dV (o:=(i1:Int).toNat*2+0) (n:=(i1:Int).toNat*2+0) rU I (.tail _ (.tail _ (.tail _ (.tail _ (.head _))))) q_e8 (M I) I),
    d⟩⟩⟩⟩⟩⟩⟩⟩ ?_
   refine p5<|cq h fun st2 q_st2 h=>s9 jY I II I q_e8 (so q_st2) (M I) (M I)<|kW (iH (so q_st2)) 46 I<|oo (O' :=[gb d9 88 ((sg1 2).h 0).1 ((sg1 2).h 0).2 st2,bx cv 31 b1 F4,bx kc 31 b (lZ q1 (J ((sg 2).h 0).1 ((sg 2).h 0).2 q1.Selects.length)),gb bh 55 ((sg 2).h 0).1 ((sg 2).h 0).2 q1.Selects,bx em 55 b2 (iF s (J ((sg1 2).h 0).1 ((sg1 2).h 0).2 st2.length) (J ((sg1 5).h 0).1 ((sg1 5).h 0).2 s.Joins.length)),gb fU 86 ((sg1 5).h 0).1 ((sg1 5).h 0).2 s.Joins]) (by first|(rw [iH (so q_st2)];done)|(rw [iH (so q_st2)];exact I)|exact I)<|bz<|cR hx1 hN1 I<|fG<|dM<|fG<|fG<|fG<|fG ?_;exact aS (ay (ih1 (i1+1) ({s with Items:=st2}:aQ) ⟨cM hx1,h⟩) (bb I))

end Go.Proofs.YthbdkceckjihgaaGreatDoor

