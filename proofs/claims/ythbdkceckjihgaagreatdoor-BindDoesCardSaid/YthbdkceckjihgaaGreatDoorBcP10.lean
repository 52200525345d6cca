/- dm of this claim: P10. -/
import Derived.Test.YthbdkceckjihgaaGreatDoorBcT
import Derived.Test.YthbdkceckjihgaaGreatDoorBcP9
set_option linter.all false
namespace Go.Proofs.YthbdkceckjihgaaGreatDoor
open Go
set_option maxRecDepth 100000

def VE l most{R}(h:tw l most=some R):jB bd 22 [qn l,bf most] false aP 3 R:=by
 exact jB.of Tryz.func22 I I I fun w0 S0=>aV<|ck false aP 3<|d (cg zf)<|bP<|aV<|iY (r:=aP) (ys:=xo) (xs:=[]) fH cF I I I I I trivial I fun l1 c=>aY I<|aY I<|bY fH I<|aY I<|d (o3 (M I) (M I))<|cu h fun y q_y h=>d (nS fH cF I (M I) (M I) q_y)<|cu h fun x q_x h=>dZ cF I I I I fH I I (M I) (M I) q_x fun l2 c1=>bj I<|so h▸na I I
def Y5 l most{R}(h:tw l most=some R):cN bd 22 [qn l,bf most] (qn R):=(VE _ _ h).spec

def Vx l most{R}(h:qk l most=some R):jB bd 30 [gb (cv) l,bf most] false cv 110 R:=by
 exact jB.of Tryz.func30 I I I fun w0 S0=>aV<|ck false cv 110<|d (cg zf)<|bP<|aV<|iY (r:=cv) (ys:=([]:List bU)) (xs:=[]) qp jN I I I I I trivial I fun l1 c=>aY I<|aY I<|bY qp I<|aY I<|d (o3 (M I) (M I))<|cu h fun y q_y h=>d (nS qp jN I (M I) (M I) q_y)<|cu h fun x q_x h=>dZ jN I I I I qp I I (M I) (M I) q_x fun l2 c1=>bj I<|so h▸na I I
def Vw l most{R}(h:mE l most=some R):jB bd 31 [gb (cQ) l,bf most] false cQ 113 R:=by
 exact jB.of Tryz.func31 I I I fun w0 S0=>aV<|ck false cQ 113<|d (cg zf)<|bP<|aV<|iY (r:=cQ) (ys:=([]:List cb)) (xs:=[]) ol jg I I I I I trivial I fun l1 c=>aY I<|aY I<|bY ol I<|aY I<|d (o3 (M I) (M I))<|cu h fun y q_y h=>d (nS ol jg I (M I) (M I) q_y)<|cu h fun x q_x h=>dZ jg I I I I ol I I (M I) (M I) q_x fun l2 c1=>bj I<|so h▸na I I
def YZ l most{R}(h:mE l most=some R):cN bd 31 [gb (cQ) l,bf most] (gb (cQ) R):=(Vw _ _ h).spec

def TL c{R}(h:ub c=some R):cN bd 10 [Z bG c] (Z bG R):=by
 refine dp Tryz.func10 I<|aV<|cL I<|aX pl sI I fun b=>bP<|aV<|aU kX dE sL I<|F6 h ac8 (Vx _ _) (da I) fun r h l c1=>d (bS (y:=lw (⟨r⟩:aJ) (Y l c1 r.length)) pl aak Cw (⟨_,_,_,_,_,I,Gh,I,(PQ (M I)),I⟩))<|ck false cv 110<|aX (r:=jm) (x:=lw QN (Y none 0 (([]:List bU).length))) pl Cw I fun b1=>iM (r' :=jm) pl I (gT I) I (M I) (M I)<|dS<|tH<|bP<|aR ?_;refine bu 0 kX I<|d (kF sL se (.head _) I (M I))<|d (ip qp (.tail _ (.head _)) (M I))<|d (bB hI)<|bP<|ai<|oe (.tail _ (.head _)) fun hN=>bp<|hZ<|hZ<|kb ?_;refine ay (jX (tD:=fun ls i out=>(r.drop i=ls)/\nl ls i out=some R) (Of:=fun _ i out=>[bx bG 24 b QN,bx jm 24 b1 (lw out (Y l c1 out.Tables.length)),f6 cv 110 l c1 out.Tables]) (Gf:=fun _ i out=>[(2,tV (an b 0)),(3,tV (an b1 0)),(11,sy l c1 r),(12,iG r),(13,bf (i:Int))]) (fun i out h=>?_) (fun e tl ih i out h=>?_) r 0 ({(⟨r⟩:aJ)with Tables:=r}:aJ) ⟨I,h⟩) (a8 I)
 ·obtain⟨D,h⟩:=h
  refine dh D I<|aq<|aV<|hU<|qf<|d (ra (q:=bG) (y:=out) pl I I I I (.tail _ (.tail _ (.head _))) (fun _ _ _ ho h=>Dj (sa ho (.head _)) h) (M I))<|dS<|bM pl aj I<|cA<|cq 2 I ?_;exact aM<|aM<|so h▸sw I pl I I I
 ·obtain⟨D,h⟩:=h
  refine dg D I<|aA<|ai<|aI I<|cu h fun e1 q_e1 h=>d (tv qp jN (.tail _ (.tail _ (.head _))) (M I) (M I) q_e1 (Kx D))<|cu h fun e2 q_e2 h=>d (dN (r:=cv) (i:=(i:Int)) (foff:=0) jN I I cE I (.tail _ (.tail _ (.head _))) q_e2 (M I))<|aX jN zj I fun b2=>gx I<|bM jN aj I<|aQ 5 I<|br ?_;refine aq<|cu h fun r1 q_r1 h=>cu h fun r2 q_r2 h=>cu h fun st q_st h=>?_
  refine er 15 [tc (tV (an b1 0)),tc (sy l c1 out.Tables),tc (bf (i:Int)),tc (tV (an b1 0)),tc (sy l c1 out.Tables),tc (bf (i:Int)),tc (bo (eM cQ) e2.Columns),tc (gb (cQ) e2.Columns),tc (gb (cQ) r1),tc (bo Zw e2.Keys),tc (qn e2.Keys),tc (qn r2),tc (tV (dO l ((i:Int).toNat*3+0))),tc (tV (dO l ((i:Int).toNat*3+1))),tc (tS)] [false,false,false,false,false,false,false,false,false,false,false,false,false,false,true] [fun _=>[bx bG 24 b QN,bx jm 24 b1 (lw out (Y l c1 out.Tables.length)),f6 cv 110 l c1 out.Tables],fun sg=>[f6 cv 110 l c1 st,bx bG 24 b QN,bx jm 24 b1 (lw out (Y l c1 out.Tables.length))]] I mixed I I I I I
   ⟨⟨[⟨3,fun _=>tV (an b1 0),none⟩],_,0,0,I,⟨(fun _=>I),Q⟩,I,I,I,I,I,fun _ sg _ _=>h2 I (lu 0 kX I I I)⟩,
   ⟨⟨[⟨18,fun _=>tV (an b1 0),some 0⟩],_,0,0,I,⟨(fun _=>I),Q⟩,I,I,I,I,I,fM (fun sg=>h2 I (kF sL se (.tail _ (.head _)) I (M I)))⟩,
   ⟨⟨[⟨4,fun _=>Z aP (i:Int),none⟩],_,0,0,I,⟨(fun _=>I),Q⟩,I,I,I,I,I,fun _ sg _ _=>h2 I (fR I)⟩,
   ⟨⟨[⟨3,fun _=>tV (an b1 0),none⟩],_,0,1,I,⟨(fun _=>I),Q⟩,I,I,I,I,I,fun _ sg _ _=>h2 I (lu 0 kX I I I)⟩,
   ⟨⟨[⟨21,fun _=>tV (an b1 0),some 3⟩],_,0,1,I,⟨(fun _=>I),Q⟩,I,I,I,I,I,ur (fun sg=>h2 I (kF sL se (.tail _ (.head _)) I (M I))) (fM (fun sg=>h2 I (kF sL se (.tail _ (.tail _ (.head _))) I (M I))))⟩,
   ⟨⟨[⟨4,fun _=>Z aP (i:Int),none⟩],_,0,1,I,⟨(fun _=>I),Q⟩,I,I,I,I,I,fun _ sg _ _=>h2 I (fR I)⟩,
   ⟨⟨[⟨5,fun _=>bo cv e2,none⟩],_,0,0,I,⟨(fun _=>I),Q⟩,I,I,I,I,I,fun _ sg _ _=>h2 I (kO iF ev I I)⟩,
   ⟨⟨[⟨24,fun _=>bo (eM cQ) e2.Columns,some 6⟩],_,0,0,I,⟨(fun _=>I),Q⟩,I,I,I,I,I,fun _ sg _ _=>h2 I (nM oq I I)⟩,
   ⟨⟨[⟨25,fun _=>Z (eM cQ) e2.Columns,some 7⟩],_,0,0,I,⟨(fun _=>I),Q⟩,I,I,I,I,I,fun _ sg _ _=>h2 I (bq ac7 (YZ _ _ q_r1) ⟨(M I),hI,Q⟩)⟩,
   ⟨⟨[⟨5,fun _=>bo cv e2,none⟩],_,0,0,I,⟨(fun _=>I),Q⟩,I,I,I,I,I,fun _ sg _ _=>h2 I (kO o7 j7 I I)⟩,
   ⟨⟨[⟨27,fun _=>bo DD e2.Keys,some 9⟩],_,0,0,I,⟨(fun _=>I),Q⟩,I,I,I,I,I,fun _ sg _ _=>h2 I (nM fV I I)⟩,
   ⟨⟨[⟨28,fun _=>Z DD e2.Keys,some 10⟩],_,0,0,I,⟨(fun _=>I),Q⟩,I,I,I,I,I,fun _ sg _ _=>h2 I (bq ade (Y5 _ _ q_r2) ⟨(M I),hI,Q⟩)⟩,
   ⟨⟨[⟨19,fun _=>tV (Y l c1 out.Tables.length),some 1⟩,⟨20,fun _=>Z aP (i:Int),some 2⟩],_,0,0,I,⟨(fun _=>I),(fun _=>I),Q⟩,I,I,I,I,I,fM (fun sg=>h2 I (cz qp jN (.tail _ (.tail _ (.head _))) (M I) (M I) q_e2))⟩,
   ⟨⟨[⟨30,fun _=>tV (dO l ((i:Int).toNat*3+0)),some 12⟩],_,0,0,I,⟨(fun _=>I),Q⟩,I,I,I,I,I,fM (fun sg=>h2 I (dQ (o:=(i:Int).toNat*3+0) (n:=(i:Int).toNat*3+1) iF I (.tail _ (.tail _ (.head _))) q_e2 (M I) I))⟩,
   ⟨⟨[⟨31,fun _=>tV (dO l ((i:Int).toNat*3+1)),some 13⟩,⟨26,fun _=>Z (eM cQ) r1,some 8⟩],_,I,⟨(fun _=>I),(fun _=>I),Q⟩,I,I,I,fun sg=>bL I (EffOK.fr2 (Cb (r:=cv) (i:=(i:Int)) (foff:=1) oq I BK I q_e2 (so q_st) (M I) (M I)))⟩,
   Q⟩⟩⟩⟩⟩⟩⟩⟩⟩⟩⟩⟩⟩⟩⟩ (fun sg=>?_)
  refine(show RG _ _ _ _ [_,_,_] _ from ?_);refine oB (O' :=[f6 cv 110 l c1 st,bx bG 24 b QN,bx jm 24 b1 (lw out (Y l c1 st.length))]) (by first|(rw [iE (so q_st)];done)|(rw [iE (so q_st)];exact I)|exact I)<|cu h fun e3 q_e3 h=>d (cz qp jN (.head _) (M I) (M I) q_e3 ((iE (so q_st)).symm))<|d (dQ (o:=(i:Int).toNat*3+0) (n:=(i:Int).toNat*3+2) o7 I (.head _) q_e3 (M I) I)<|cu h fun st1 q_st1 h=>s9 fV I Nr I q_e3 (so q_st1) (M I) (M I)<|oB (O' :=[f6 cv 110 l c1 st1,bx bG 24 b QN,bx jm 24 b1 (lw out (Y l c1 st1.length))]) (by first|(rw [iE (so q_st1)];done)|(rw [iE (so q_st1)];exact I)|exact I)<|br<|cS D hN I<|gj<|gj ?_;exact aO (ay (ih (i+1) ({out with Tables:=st1}:aJ) ⟨cO D,h⟩) (a8 I))

def Vv l most{R}(h:pB l most=some R):jB bd 32 [gb (aW) l,bf most] false aW 55 R:=by
 exact jB.of Tryz.func32 I I I fun w0 S0=>aV<|ck false aW 55<|d (cg zf)<|bP<|aV<|iY (r:=aW) (ys:=([]:List aK)) (xs:=[]) tL pj I I I I I trivial I fun l1 c=>aY I<|aY I<|bY tL I<|aY I<|d (o3 (M I) (M I))<|cu h fun y q_y h=>d (nS tL pj I (M I) (M I) q_y)<|cu h fun x q_x h=>dZ pj I I I I tL I I (M I) (M I) q_x fun l2 c1=>bj I<|so h▸na I I
def Vu l most{R}(h:o5 l most=some R):jB bd 33 [gb (je) l,bf most] false je 57 R:=by
 exact jB.of Tryz.func33 I I I fun w0 S0=>aV<|ck false je 57<|d (cg zf)<|bP<|aV<|iY (r:=je) (ys:=([]:List sC)) (xs:=[]) wZ vC I I I I I trivial I fun l1 c=>aY I<|aY I<|bY wZ I<|aY I<|d (o3 (M I) (M I))<|cu h fun y q_y h=>d (nS wZ vC I (M I) (M I) q_y)<|cu h fun x q_x h=>dZ vC I I I I wZ I I (M I) (M I) q_x fun l2 c1=>bj I<|so h▸na I I
def YY l most{R}(h:o5 l most=some R):cN bd 33 [gb (je) l,bf most] (gb (je) R):=(Vu _ _ h).spec

def Vt l most{R}(h:re l most=some R):jB bd 34 [gb (d5) l,bf most] false d5 88 R:=by
 exact jB.of Tryz.func34 I I I fun w0 S0=>aV<|ck false d5 88<|d (cg zf)<|bP<|aV<|iY (r:=d5) (ys:=([]:List fK)) (xs:=[]) pe nH I I I I I trivial I fun l1 c=>aY I<|aY I<|bY pe I<|aY I<|d (o3 (M I) (M I))<|cu h fun y q_y h=>d (nS pe nH I (M I) (M I) q_y)<|cu h fun x q_x h=>dZ nH I I I I pe I I (M I) (M I) q_x fun l2 c1=>bj I<|so h▸na I I
def Vs l most{R}(h:rd l most=some R):jB bd 35 [gb (dC) l,bf most] false dC 86 R:=by
 exact jB.of Tryz.func35 I I I fun w0 S0=>aV<|ck false dC 86<|d (cg zf)<|bP<|aV<|iY (r:=dC) (ys:=([]:List mZ)) (xs:=[]) rD my I I I I I trivial I fun l1 c=>aY I<|aY I<|bY rD I<|aY I<|d (o3 (M I) (M I))<|cu h fun y q_y h=>d (nS rD my I (M I) (M I) q_y)<|cu h fun x q_x h=>dZ my I I I I rD I I (M I) (M I) q_x fun l2 c1=>bj I<|so h▸na I I
def Vr l most{R}(h:nV l most=some R):jB bd 36 [gb (fI) l,bf most] false fI 91 R:=by
 exact jB.of Tryz.func36 I I I fun w0 S0=>aV<|ck false fI 91<|d (cg zf)<|bP<|aV<|iY (r:=fI) (ys:=([]:List jY)) (xs:=[]) wj vB I I I I I trivial I fun l1 c=>aY I<|aY I<|bY wj I<|aY I<|d (o3 (M I) (M I))<|cu h fun y q_y h=>d (nS wj vB I (M I) (M I) q_y)<|cu h fun x q_x h=>dZ vB I I I I wj I I (M I) (M I) q_x fun l2 c1=>bj I<|so h▸na I I
def YX l most{R}(h:nV l most=some R):cN bd 36 [gb (fI) l,bf most] (gb (fI) R):=(Vr _ _ h).spec

def Vn l most{R}(h:rb l most=some R):jB bd 82 [gb (dd) l,bf most] false dd 162 R:=by
 exact jB.of Tryz.func82 I I I fun w0 S0=>aV<|ck false dd 162<|d (cg zf)<|bP<|aV<|iY (r:=dd) (ys:=([]:List dj)) (xs:=[]) nb ko I I I I I trivial I fun l1 c=>aY I<|aY I<|bY nb I<|aY I<|d (o3 (M I) (M I))<|cu h fun y q_y h=>d (nS nb ko I (M I) (M I) q_y)<|cu h fun x q_x h=>dZ ko I I I I nb I I (M I) (M I) q_x fun l2 c1=>bj I<|so h▸na I I
def Km t{R}(h:pA t=some R):cN bd 37 [Z bD t] (Z bD R):=by
 refine dp Tryz.func37 I<|aV<|cL I<|aX iw uO I fun b=>bP<|aV<|aU ik dX qi I<|F6 h acz (Vn _ _) (da I) fun r h l c=>d (bS (y:=oK (⟨r⟩:db) (Y l c r.length)) iw aai IC (⟨_,_,_,_,_,I,Li,I,(PQ (M I)),I⟩))<|ck false dd 162<|aX (r:=mj) (x:=oK sx (Y none 0 (([]:List dj).length))) iw IC I fun b1=>iM (r' :=mj) iw I (gT I) I (M I) (M I)<|dS<|tH<|bP<|aR ?_;refine bu 0 ik I<|d (kF qi ER (.head _) I (M I))<|d (ip nb (.tail _ (.head _)) (M I))<|d (bB hI)<|bP<|ai<|oe (.tail _ (.head _)) fun hN=>bp<|hZ<|hZ<|kb ?_;refine ay (jX (tD:=fun ls i out=>(r.drop i=ls)/\np ls i out=some R) (Of:=fun _ i out=>[bx bD 52 b sx,bx mj 52 b1 (oK out (Y l c out.Nodes.length)),f6 dd 162 l c out.Nodes]) (Gf:=fun _ i out=>[(2,tV (an b 0)),(3,tV (an b1 0)),(12,iG r),(13,bf (i:Int))]) (fun i out h=>?_) (fun e tl ih i out h=>?_) r 0 ({(⟨r⟩:db)with Nodes:=r}:db) ⟨I,h⟩) (a8 I)
 ·obtain⟨D,h⟩:=h
  refine dh D I<|aq<|aV<|hU<|qf<|d (ra (q:=bD) (y:=out) iw I I I I (.tail _ (.tail _ (.head _))) (fun _ _ _ ho h=>Hr (sa ho (.head _)) h) (M I))<|dS<|bM iw aj I<|cA<|cq 2 I ?_;exact aM<|aM<|so h▸sw I iw I I I
 ·obtain⟨D,h⟩:=h
  refine dg D I<|aA<|ai<|aI I<|bh I<|aV<|bu 0 ik I<|d (kF qi ER (.tail _ (.head _)) I (M I))<|aY I<|cu h fun e1 q_e1 h=>?_;refine d (cz nb ko (.tail _ (.tail _ (.head _))) (M I) (M I) q_e1)<|bh I<|cu h fun y q_y h=>cu h fun y1 q_y1 h=>cu h fun y2 q_y2 h=>cu h fun st q_st h=>cu h fun e2 q_e2 h=>cu h fun st1 q_st1 h=>?_
  refine er 45 [tc (tV (dO l ((i:Int).toNat*9+0))),tc (tV (dO l ((i:Int).toNat*9+0))),tc (tV (dO l ((i:Int).toNat*9+0))),tc (tV (dO l ((i:Int).toNat*9+0))),tc (tV (dO l ((i:Int).toNat*9+0))),tc (tV (dO l ((i:Int).toNat*9+3))),tc (tV (dO l ((i:Int).toNat*9+6))),tc (Z rS e1.Value.S),tc (tV (dO l ((i:Int).toNat*9+0))),tc (tV (dO l ((i:Int).toNat*9+0))),tc (tV (dO l ((i:Int).toNat*9+3))),tc (tV (dO l ((i:Int).toNat*9+6))),tc (Z rS e1.Value.S),tc (iG e1.Value.S),tc (bf (min (e1.Value.S.length:Int) (60:Int))),tc (Z rS y),tc (tV (dO l ((i:Int).toNat*9+0))),tc (tV (dO l ((i:Int).toNat*9+0))),tc (tV (dO l ((i:Int).toNat*9+7))),tc (Z rS e1.Table),tc (tV (dO l ((i:Int).toNat*9+0))),tc (tV (dO l ((i:Int).toNat*9+0))),tc (tV (dO l ((i:Int).toNat*9+7))),tc (Z rS e1.Table),tc (iG e1.Table),tc (bf (min (e1.Table.length:Int) (40:Int))),tc (Z rS y1),tc (tV (dO l ((i:Int).toNat*9+0))),tc (tV (dO l ((i:Int).toNat*9+0))),tc (tV (dO l ((i:Int).toNat*9+8))),tc (Z rS e1.Name),tc (tV (dO l ((i:Int).toNat*9+0))),tc (tV (dO l ((i:Int).toNat*9+0))),tc (tV (dO l ((i:Int).toNat*9+8))),tc (Z rS e1.Name),tc (iG e1.Name),tc (bf (min (e1.Name.length:Int) (40:Int))),tc (Z rS y2),tc (tV (dO l ((i:Int).toNat*9+0))),tc (tV (dO l ((i:Int).toNat*9+3))),tc (tV (dO l ((i:Int).toNat*9+6))),tc (tS),tc (tV (dO l ((i:Int).toNat*9+0))),tc (tV (dO l ((i:Int).toNat*9+7))),tc (tS)] [false,false,false,false,false,false,false,false,false,false,false,false,false,false,false,false,false,false,false,false,false,false,false,false,false,false,false,false,false,false,false,false,false,false,false,false,false,false,false,false,false,true,false,false,true] [fun _=>[bx bD 52 b sx,bx mj 52 b1 (oK out (Y l c out.Nodes.length)),f6 dd 162 l c out.Nodes],fun sg=>[f6 dd 162 l c st,bx bD 52 b sx,bx mj 52 b1 (oK out (Y l c out.Nodes.length))],fun sg=>[f6 dd 162 l c st1,bx bD 52 b sx,bx mj 52 b1 (oK out (Y l c out.Nodes.length))]] I mixed I I I I I
   ⟨⟨[⟨5,fun _=>tV (dO l ((i:Int).toNat*9+0)),none⟩],_,0,0,I,⟨(fun _=>I),Q⟩,I,I,I,I,I,fun _ sg _ _=>h2 I (fR I)⟩,
   ⟨⟨[⟨5,fun _=>tV (dO l ((i:Int).toNat*9+0)),none⟩],_,0,1,I,⟨(fun _=>I),Q⟩,I,I,I,I,I,fun _ sg _ _=>h2 I (fR I)⟩,
   ⟨⟨[⟨5,fun _=>tV (dO l ((i:Int).toNat*9+0)),none⟩],_,0,2,I,⟨(fun _=>I),Q⟩,I,I,I,I,I,fun _ sg _ _=>h2 I (fR I)⟩,
   ⟨⟨[⟨5,fun _=>tV (dO l ((i:Int).toNat*9+0)),none⟩],_,0,0,I,⟨(fun _=>I),Q⟩,I,I,I,I,I,fun _ sg _ _=>h2 I (fR I)⟩,
   ⟨⟨[⟨23,fun _=>tV (dO l ((i:Int).toNat*9+0)),some 3⟩],_,0,0,I,⟨(fun _=>I),Q⟩,I,I,I,I,I,fM (fun sg=>h2 I (u9 (.tail _ (.tail _ (.head _))) q_e1 (M I)))⟩,
   ⟨⟨[⟨24,fun _=>tV (dO l ((i:Int).toNat*9+0)),some 4⟩],_,0,0,I,⟨(fun _=>I),Q⟩,I,I,I,I,I,fM (fun sg=>h2 I (dQ (o:=(i:Int).toNat*9+0) (n:=(i:Int).toNat*9+3) qU I (.tail _ (.tail _ (.head _))) q_e1 (M I) I))⟩,
   ⟨⟨[⟨25,fun _=>tV (dO l ((i:Int).toNat*9+3)),some 5⟩],_,0,0,I,⟨(fun _=>I),Q⟩,I,I,I,I,I,fM (fun sg=>h2 I (dQ (o:=(i:Int).toNat*9+3) (n:=(i:Int).toNat*9+6) qa I (.tail _ (.tail _ (.head _))) q_e1 (M I) I))⟩,
   ⟨⟨[⟨26,fun _=>tV (dO l ((i:Int).toNat*9+6)),some 6⟩],_,0,0,I,⟨(fun _=>I),Q⟩,I,I,I,I,I,fM (fun sg=>h2 I (dN (r:=dd) (i:=(i:Int)) (foff:=6) ja I I (fj lL kW) I (.tail _ (.tail _ (.head _))) q_e1 (M I)))⟩,
   ⟨⟨[⟨5,fun _=>tV (dO l ((i:Int).toNat*9+0)),none⟩],_,0,0,I,⟨(fun _=>I),Q⟩,I,I,I,I,I,fun _ sg _ _=>h2 I (fR I)⟩,
   ⟨⟨[⟨28,fun _=>tV (dO l ((i:Int).toNat*9+0)),some 8⟩],_,0,0,I,⟨(fun _=>I),Q⟩,I,I,I,I,I,fM (fun sg=>h2 I (u9 (.tail _ (.tail _ (.head _))) q_e1 (M I)))⟩,
   ⟨⟨[⟨29,fun _=>tV (dO l ((i:Int).toNat*9+0)),some 9⟩],_,0,0,I,⟨(fun _=>I),Q⟩,I,I,I,I,I,fM (fun sg=>h2 I (dQ (o:=(i:Int).toNat*9+0) (n:=(i:Int).toNat*9+3) qU I (.tail _ (.tail _ (.head _))) q_e1 (M I) I))⟩,
   ⟨⟨[⟨30,fun _=>tV (dO l ((i:Int).toNat*9+3)),some 10⟩],_,0,0,I,⟨(fun _=>I),Q⟩,I,I,I,I,I,fM (fun sg=>h2 I (dQ (o:=(i:Int).toNat*9+3) (n:=(i:Int).toNat*9+6) qa I (.tail _ (.tail _ (.head _))) q_e1 (M I) I))⟩,
   ⟨⟨[⟨31,fun _=>tV (dO l ((i:Int).toNat*9+6)),some 11⟩],_,0,0,I,⟨(fun _=>I),Q⟩,I,I,I,I,I,fM (fun sg=>h2 I (dN (r:=dd) (i:=(i:Int)) (foff:=6) ja I I (fj lL kW) I (.tail _ (.tail _ (.head _))) q_e1 (M I)))⟩,
   ⟨⟨[⟨32,fun _=>Z rS e1.Value.S,some 12⟩],_,0,0,I,⟨(fun _=>I),Q⟩,I,I,I,I,I,fun _ sg _ _=>h2 I (nT nG (M I))⟩,
   ⟨⟨[⟨33,fun _=>Z aP (e1.Value.S.length:Int),some 13⟩],_,0,0,I,⟨(fun _=>I),Q⟩,I,I,I,I,I,fun _ sg _ _=>h2 I (o3 (M I) hI)⟩,
   ⟨⟨[⟨27,fun _=>Z rS e1.Value.S,some 7⟩,⟨34,fun _=>Z aP (min (e1.Value.S.length:Int) (60:Int)),some 14⟩],_,0,0,I,⟨(fun _=>I),(fun _=>I),Q⟩,I,I,I,I,I,fun _ sg _ _=>h2 I (D2 nG (M I) (M I) q_y)⟩,
   ⟨⟨[⟨5,fun _=>tV (dO l ((i:Int).toNat*9+0)),none⟩],_,0,0,I,⟨(fun _=>I),Q⟩,I,I,I,I,I,fun _ sg _ _=>h2 I (fR I)⟩,
   ⟨⟨[⟨36,fun _=>tV (dO l ((i:Int).toNat*9+0)),some 16⟩],_,0,0,I,⟨(fun _=>I),Q⟩,I,I,I,I,I,fM (fun sg=>h2 I (u9 (.tail _ (.tail _ (.head _))) q_e1 (M I)))⟩,
   ⟨⟨[⟨37,fun _=>tV (dO l ((i:Int).toNat*9+0)),some 17⟩],_,0,0,I,⟨(fun _=>I),Q⟩,I,I,I,I,I,fM (fun sg=>h2 I (dQ (o:=(i:Int).toNat*9+0) (n:=(i:Int).toNat*9+7) tz I (.tail _ (.tail _ (.head _))) q_e1 (M I) I))⟩,
   ⟨⟨[⟨38,fun _=>tV (dO l ((i:Int).toNat*9+7)),some 18⟩],_,0,0,I,⟨(fun _=>I),Q⟩,I,I,I,I,I,fM (fun sg=>h2 I (dN (r:=dd) (i:=(i:Int)) (foff:=7) ja I I oM I (.tail _ (.tail _ (.head _))) q_e1 (M I)))⟩,
   ⟨⟨[⟨5,fun _=>tV (dO l ((i:Int).toNat*9+0)),none⟩],_,0,0,I,⟨(fun _=>I),Q⟩,I,I,I,I,I,fun _ sg _ _=>h2 I (fR I)⟩,
   ⟨⟨[⟨40,fun _=>tV (dO l ((i:Int).toNat*9+0)),some 20⟩],_,0,0,I,⟨(fun _=>I),Q⟩,I,I,I,I,I,fM (fun sg=>h2 I (u9 (.tail _ (.tail _ (.head _))) q_e1 (M I)))⟩,
   ⟨⟨[⟨41,fun _=>tV (dO l ((i:Int).toNat*9+0)),some 21⟩],_,0,0,I,⟨(fun _=>I),Q⟩,I,I,I,I,I,fM (fun sg=>h2 I (dQ (o:=(i:Int).toNat*9+0) (n:=(i:Int).toNat*9+7) tz I (.tail _ (.tail _ (.head _))) q_e1 (M I) I))⟩,
   ⟨⟨[⟨42,fun _=>tV (dO l ((i:Int).toNat*9+7)),some 22⟩],_,0,0,I,⟨(fun _=>I),Q⟩,I,I,I,I,I,fM (fun sg=>h2 I (dN (r:=dd) (i:=(i:Int)) (foff:=7) ja I I oM I (.tail _ (.tail _ (.head _))) q_e1 (M I)))⟩,
   ⟨⟨[⟨43,fun _=>Z rS e1.Table,some 23⟩],_,0,1,I,⟨(fun _=>I),Q⟩,I,I,I,I,I,fun _ sg _ _=>h2 I (nT nG (M I))⟩,
   ⟨⟨[⟨44,fun _=>Z aP (e1.Table.length:Int),some 24⟩],_,0,1,I,⟨(fun _=>I),Q⟩,I,I,I,I,I,fun _ sg _ _=>h2 I (o3 (M I) hI)⟩,
   ⟨⟨[⟨39,fun _=>Z rS e1.Table,some 19⟩,⟨45,fun _=>Z aP (min (e1.Table.length:Int) (40:Int)),some 25⟩],_,0,1,I,⟨(fun _=>I),(fun _=>I),Q⟩,I,I,I,I,I,fun _ sg _ _=>h2 I (D2 nG (M I) (M I) q_y1)⟩,
   ⟨⟨[⟨5,fun _=>tV (dO l ((i:Int).toNat*9+0)),none⟩],_,0,0,I,⟨(fun _=>I),Q⟩,I,I,I,I,I,fun _ sg _ _=>h2 I (fR I)⟩,
   ⟨⟨[⟨47,fun _=>tV (dO l ((i:Int).toNat*9+0)),some 27⟩],_,0,0,I,⟨(fun _=>I),Q⟩,I,I,I,I,I,fM (fun sg=>h2 I (u9 (.tail _ (.tail _ (.head _))) q_e1 (M I)))⟩,
   ⟨⟨[⟨48,fun _=>tV (dO l ((i:Int).toNat*9+0)),some 28⟩],_,0,0,I,⟨(fun _=>I),Q⟩,I,I,I,I,I,fM (fun sg=>h2 I (dQ (o:=(i:Int).toNat*9+0) (n:=(i:Int).toNat*9+8) qT I (.tail _ (.tail _ (.head _))) q_e1 (M I) I))⟩,
   ⟨⟨[⟨49,fun _=>tV (dO l ((i:Int).toNat*9+8)),some 29⟩],_,0,0,I,⟨(fun _=>I),Q⟩,I,I,I,I,I,fM (fun sg=>h2 I (dN (r:=dd) (i:=(i:Int)) (foff:=8) ja I I mo I (.tail _ (.tail _ (.head _))) q_e1 (M I)))⟩,
   ⟨⟨[⟨5,fun _=>tV (dO l ((i:Int).toNat*9+0)),none⟩],_,0,0,I,⟨(fun _=>I),Q⟩,I,I,I,I,I,fun _ sg _ _=>h2 I (fR I)⟩,
   ⟨⟨[⟨51,fun _=>tV (dO l ((i:Int).toNat*9+0)),some 31⟩],_,0,0,I,⟨(fun _=>I),Q⟩,I,I,I,I,I,fM (fun sg=>h2 I (u9 (.tail _ (.tail _ (.head _))) q_e1 (M I)))⟩,
   ⟨⟨[⟨52,fun _=>tV (dO l ((i:Int).toNat*9+0)),some 32⟩],_,0,0,I,⟨(fun _=>I),Q⟩,I,I,I,I,I,fM (fun sg=>h2 I (dQ (o:=(i:Int).toNat*9+0) (n:=(i:Int).toNat*9+8) qT I (.tail _ (.tail _ (.head _))) q_e1 (M I) I))⟩,
   ⟨⟨[⟨53,fun _=>tV (dO l ((i:Int).toNat*9+8)),some 33⟩],_,0,0,I,⟨(fun _=>I),Q⟩,I,I,I,I,I,fM (fun sg=>h2 I (dN (r:=dd) (i:=(i:Int)) (foff:=8) ja I I mo I (.tail _ (.tail _ (.head _))) q_e1 (M I)))⟩,
   ⟨⟨[⟨54,fun _=>Z rS e1.Name,some 34⟩],_,0,2,I,⟨(fun _=>I),Q⟩,I,I,I,I,I,fun _ sg _ _=>h2 I (nT nG (M I))⟩,
   ⟨⟨[⟨55,fun _=>Z aP (e1.Name.length:Int),some 35⟩],_,0,2,I,⟨(fun _=>I),Q⟩,I,I,I,I,I,fun _ sg _ _=>h2 I (o3 (M I) hI)⟩,
   ⟨⟨[⟨50,fun _=>Z rS e1.Name,some 30⟩,⟨56,fun _=>Z aP (min (e1.Name.length:Int) (40:Int)),some 36⟩],_,0,2,I,⟨(fun _=>I),(fun _=>I),Q⟩,I,I,I,I,I,fun _ sg _ _=>h2 I (D2 nG (M I) (M I) q_y2)⟩,
   ⟨⟨[⟨20,fun _=>tV (dO l ((i:Int).toNat*9+0)),some 0⟩],_,0,0,I,⟨(fun _=>I),Q⟩,I,I,I,I,I,fM (fun sg=>h2 I (u9 (.tail _ (.tail _ (.head _))) q_e1 (M I)))⟩,
   ⟨⟨[⟨58,fun _=>tV (dO l ((i:Int).toNat*9+0)),some 38⟩],_,0,0,I,⟨(fun _=>I),Q⟩,I,I,I,I,I,fM (fun sg=>h2 I (dQ (o:=(i:Int).toNat*9+0) (n:=(i:Int).toNat*9+3) qU I (.tail _ (.tail _ (.head _))) q_e1 (M I) I))⟩,
   ⟨⟨[⟨59,fun _=>tV (dO l ((i:Int).toNat*9+3)),some 39⟩],_,0,0,I,⟨(fun _=>I),Q⟩,I,I,I,I,I,fM (fun sg=>h2 I (dQ (o:=(i:Int).toNat*9+3) (n:=(i:Int).toNat*9+6) qa I (.tail _ (.tail _ (.head _))) q_e1 (M I) I))⟩,
   ⟨⟨[⟨60,fun _=>tV (dO l ((i:Int).toNat*9+6)),some 40⟩,⟨35,fun _=>Z rS y,some 15⟩],_,I,⟨(fun _=>I),(fun _=>I),Q⟩,I,I,I,fun sg=>bL I (EffOK.fr2 (Cb (r:=dd) (i:=(i:Int)) (foff:=6) ja I (gc lL Q8 Gn) I q_e1 (so q_st) (M I) (M I)))⟩,
   ⟨⟨[⟨21,fun _=>tV (dO l ((i:Int).toNat*9+0)),some 1⟩],_,1,1,I,⟨(fun _=>I),Q⟩,I,I,I,I,I,fM (fun sg=>h2 I (u9 (.head _) q_e2 (M I)))⟩,
   ⟨⟨[⟨61,fun _=>tV (dO l ((i:Int).toNat*9+0)),some 42⟩],_,1,1,I,⟨(fun _=>I),Q⟩,I,I,I,I,I,fM (fun sg=>h2 I (dQ (o:=(i:Int).toNat*9+0) (n:=(i:Int).toNat*9+7) tz I (.head _) q_e2 (M I) I))⟩,
   ⟨⟨[⟨62,fun _=>tV (dO l ((i:Int).toNat*9+7)),some 43⟩,⟨46,fun _=>Z rS y1,some 26⟩],_,I,⟨(fun _=>I),(fun _=>I),Q⟩,I,I,I,fun sg=>bL I (Cb (r:=dd) (i:=(i:Int)) (foff:=7) ja I Q7 I q_e2 (so q_st1) (M I) (M I))⟩,
   Q⟩⟩⟩⟩⟩⟩⟩⟩⟩⟩⟩⟩⟩⟩⟩⟩⟩⟩⟩⟩⟩⟩⟩⟩⟩⟩⟩⟩⟩⟩⟩⟩⟩⟩⟩⟩⟩⟩⟩⟩⟩⟩⟩⟩⟩ (fun sg=>?_)
  refine(show RG _ _ _ _ [_,_,_] _ from ?_);refine oB (O' :=[f6 dd 162 l c st1,bx bD 52 b sx,bx mj 52 b1 (oK out (Y l c st1.length))]) (by first|(rw [iE (so q_st1),iE (so q_st)];done)|(rw [iE (so q_st1),iE (so q_st)];exact I)|exact I)<|cu h fun e3 q_e3 h=>d (u9 (.head _) q_e3 (M I))<|d (dQ (o:=(i:Int).toNat*9+0) (n:=(i:Int).toNat*9+8) qT I (.head _) q_e3 (M I) I)<|cu h fun st2 q_st2 h=>s9 ja I IN I q_e3 (so q_st2) (M I) (M I)<|oB (O' :=[f6 dd 162 l c st2,bx bD 52 b sx,bx mj 52 b1 (oK out (Y l c st2.length))]) (by first|(rw [iE (so q_st2)];done)|(rw [iE (so q_st2)];exact I)|exact I)<|br<|cS D hN I<|gj<|gj ?_;exact aO (ay (ih (i+1) ({out with Nodes:=st2}:db) ⟨cO D,h⟩) (a8 I))

def Og q{R}(h:vn q=some R):cN bd 11 [Z cw q] (Z cw R):=by
 refine dp Tryz.func11 I<|aV<|AL (M I) I fun b=>aX vF zk I fun b1=>bP<|aA<|cu h fun r q_r h=>cu h fun r1 q_r1 h=>?_
 refine er 7 [tc (tV (an b 0)),tc (gb (aW) q.Selects),([2],fun s=>tV (Y ((s.getD 0 oD).h 0).1 ((s.getD 0 oD).h 0).2 r.length)),tc (tV (an b 1)),tc (gb (je) q.Keys),tc (gb (je) r1),tc (tV (an b 0))] [false,false,true,false,false,false,false] [fun _=>[bx cw 31 b1 F3,bx cw 31 b q],fun sg=>[f6 aW 55 ((sg 2).h 0).1 ((sg 2).h 0).2 r,bx cw 31 b1 F3,bx cw 31 b q]] I mixed I I I I I
  ⟨⟨[⟨1,fun _=>tV (an b 0),none⟩],_,0,0,I,⟨(fun _=>I),Q⟩,I,I,I,I,I,fun _ sg _ _=>h2 I (lu 0 pJ I I I)⟩,
  ⟨⟨[⟨9,fun _=>tV (an b 0),some 0⟩],_,0,0,I,⟨(fun _=>I),Q⟩,I,I,I,I,I,fM (fun sg=>h2 I (bA zq I I jv (.tail _ (.head _)) (M I)))⟩,
  ⟨⟨[⟨10,fun _=>Z (eM aW) q.Selects,some 1⟩],_,I,⟨(fun _=>I),Q⟩,I,I,I,fun sg=>bL I (Em (xs:=[.tmp 10,.const (.int .i64 (4))]) (ts:=[Z (eM aW) q.Selects,Z aP (4:Int)]) ac6 (Vv _ _ q_r) ⟨(M I),hI,Q⟩)⟩,
  ⟨⟨[⟨1,fun _=>tV (an b 0),none⟩],_,0,1,I,⟨(fun _=>I),Q⟩,I,I,I,I,I,fun _ sg _ _=>h2 I (lu 1 si I I I)⟩,
  ⟨⟨[⟨12,fun _=>tV (an b 1),some 3⟩],_,0,1,I,⟨(fun _=>I),Q⟩,I,I,I,I,I,ur (fun sg=>h2 I (bA BF I I j8 (.tail _ (.head _)) (M I))) (fM (fun sg=>h2 I (bA BF I I j8 (.tail _ (.tail _ (.head _))) (M I))))⟩,
  ⟨⟨[⟨13,fun _=>Z (eM je) q.Keys,some 4⟩],_,1,1,I,⟨(fun _=>I),Q⟩,I,I,I,I,I,fun _ sg _ _=>h2 I (bq ac5 (YY _ _ q_r1) ⟨(M I),hI,Q⟩)⟩,
  ⟨⟨[⟨1,fun _=>tV (an b 0),none⟩],_,1,1,I,⟨(fun _=>I),Q⟩,I,I,I,I,I,fun _ sg _ _=>h2 I (lu 0 pJ I I I)⟩,
  Q⟩⟩⟩⟩⟩⟩⟩ (fun sg=>?_)
 refine(show RG _ _ _ _ [_,_,_] _ from ?_);refine hU<|iM zq I (BG q _) I (M I) (PQ (M I))<|bu 1 si I<|bM BF JR I<|bP<|aR<|bu 0 pJ I<|d (kF zq C9 (.head _) I (M I))<|d (ip tL (.tail _ (.head _)) (M I))<|d (bB hI)<|bP<|ai<|oe (.tail _ (.head _)) fun hN=>bp<|hZ<|hZ<|kb ?_;refine ay (jX (tD:=fun ls i q1=>(r.drop i=ls)/\lx ls i q1=some R) (Of:=fun _ i q1=>[bx cw 31 b1 F3,bx j3 31 b (lX q1 (Y ((sg 2).h 0).1 ((sg 2).h 0).2 q1.Selects.length)),f6 aW 55 ((sg 2).h 0).1 ((sg 2).h 0).2 q1.Selects]) (Gf:=fun _ i q1=>[(1,tV (an b 0)),(2,tV (an b1 0)),(18,tV (Y ((sg 2).h 0).1 ((sg 2).h 0).2 r.length)),(19,iG r),(20,bf (i:Int))]) (fun i q1 h=>?_) (fun e tl ih i q1 h=>?_) r 0 ({({q with Keys:=r1}:ce)with Selects:=r}:ce) ⟨I,h⟩) (a8 I)
 ·obtain⟨D,h⟩:=h
  refine dh D I<|aq<|aV<|hU<|qf<|d (ra (q:=cw) (y:=q1) vF I I I I (.tail _ (.tail _ (.head _))) (fun _ _ _ ho h=>Fj (sa ho (.head _)) h) (M I))<|dS<|bM vF aj I<|cA<|cq 2 I ?_;exact aM<|aM<|so h▸sw I vF I I I
 ·obtain⟨D,h⟩:=h
  refine dg D I<|aA<|ai<|aI I<|cu h fun e1 q_e1 h=>d (tv tL pj (.tail _ (.tail _ (.head _))) (M I) (M I) q_e1 (Kx D))<|cu h fun e2 q_e2 h=>d (dN (r:=aW) (i:=(i:Int)) (foff:=0) pj I I cE I (.tail _ (.tail _ (.head _))) q_e2 (M I))<|ck false d5 88<|ck false dC 86<|aX (r:=eo) (x:=iA (⟨false,false,[],(⟨[],[]⟩:d7),[],sx,sx,[]⟩:aK) (Y none 0 (([]:List fK).length)) (Y none 0 (([]:List mZ).length))) pj HY I fun b2=>gx I<|iM (r' :=aW) (x' :=e2) pj I (gT I) I (M I) (M I) ?_;refine(show RG _ _ _ _ [_,_,_,_,_,_] _ from ?_);refine dS<|tH<|dS<|tH<|bP<|aA<|cu h fun r2 q_r2 h=>cu h fun r3 q_r3 h=>cu h fun r4 q_r4 h=>?_
  refine er 10 [tc (tV (an b2 2)),tc (gb (d5) e2.Items),([2],fun s=>tV (Y ((s.getD 0 oD).h 0).1 ((s.getD 0 oD).h 0).2 r2.length)),tc (tV (an b2 5)),tc (gb (dC) e2.Joins),([5],fun s=>tV (Y ((s.getD 0 oD).h 0).1 ((s.getD 0 oD).h 0).2 r3.length)),tc (tV (an b2 8)),tc (gb (fI) e2.Group),tc (gb (fI) r4),tc (tV (an b2 2))] [false,false,true,false,false,true,false,false,false,false] [fun _=>[bx aW 55 b2 e2,bx cw 31 b1 F3,bx j3 31 b (lX q1 (Y ((sg 2).h 0).1 ((sg 2).h 0).2 q1.Selects.length)),f6 aW 55 ((sg 2).h 0).1 ((sg 2).h 0).2 q1.Selects],fun sg1=>[f6 d5 88 ((sg1 2).h 0).1 ((sg1 2).h 0).2 r2,bx aW 55 b2 e2,bx cw 31 b1 F3,bx j3 31 b (lX q1 (Y ((sg 2).h 0).1 ((sg 2).h 0).2 q1.Selects.length)),f6 aW 55 ((sg 2).h 0).1 ((sg 2).h 0).2 q1.Selects],fun sg1=>[f6 dC 86 ((sg1 5).h 0).1 ((sg1 5).h 0).2 r3,f6 d5 88 ((sg1 2).h 0).1 ((sg1 2).h 0).2 r2,bx aW 55 b2 e2,bx cw 31 b1 F3,bx j3 31 b (lX q1 (Y ((sg 2).h 0).1 ((sg 2).h 0).2 q1.Selects.length)),f6 aW 55 ((sg 2).h 0).1 ((sg 2).h 0).2 q1.Selects]] I mixed I I I I I
   ⟨⟨[⟨4,fun _=>tV (an b2 0),none⟩],_,0,0,I,⟨(fun _=>I),Q⟩,I,I,I,I,I,fun _ sg1 _ _=>h2 I (lu 2 ma I I I)⟩,
   ⟨⟨[⟨25,fun _=>tV (an b2 2),some 0⟩],_,0,0,I,⟨(fun _=>I),Q⟩,I,I,I,I,I,fM (fun sg1=>h2 I (bA vE I I eK (.head _) (M I)))⟩,
   ⟨⟨[⟨26,fun _=>Z (eM d5) e2.Items,some 1⟩],_,I,⟨(fun _=>I),Q⟩,I,I,I,fun sg1=>bL I (Em (xs:=[.tmp 26,.const (.int .i64 (7))]) (ts:=[Z (eM d5) e2.Items,Z aP (7:Int)]) ac4 (Vt _ _ q_r2) ⟨(M I),hI,Q⟩)⟩,
   ⟨⟨[⟨4,fun _=>tV (an b2 0),none⟩],_,0,1,I,⟨(fun _=>I),Q⟩,I,I,I,I,I,fun _ sg1 _ _=>h2 I (lu 5 mi I I I)⟩,
   ⟨⟨[⟨28,fun _=>tV (an b2 5),some 3⟩],_,0,1,I,⟨(fun _=>I),Q⟩,I,I,I,I,I,ur (fun sg1=>h2 I (bA vD I I eJ (.head _) (M I))) (fM (fun sg1=>h2 I (bA vD I I eJ (.tail _ (.head _)) (M I))))⟩,
   ⟨⟨[⟨29,fun _=>Z KX e2.Joins,some 4⟩],_,I,⟨(fun _=>I),Q⟩,I,I,I,fun sg1=>bL I (Em (xs:=[.tmp 29,.const (.int .i64 (3))]) (ts:=[Z KX e2.Joins,Z aP (3:Int)]) ac3 (Vs _ _ q_r3) ⟨(M I),hI,Q⟩)⟩,
   ⟨⟨[⟨4,fun _=>tV (an b2 0),none⟩],_,0,2,I,⟨(fun _=>I),Q⟩,I,I,I,I,I,fun _ sg1 _ _=>h2 I (lu 8 ri I I I)⟩,
   ⟨⟨[⟨31,fun _=>tV (an b2 8),some 6⟩],_,0,2,I,⟨(fun _=>I),Q⟩,I,I,I,I,I,ur (fun sg1=>h2 I (bA zp I I gk (.head _) (M I))) (ur (fun sg1=>h2 I (bA zp I I gk (.tail _ (.head _)) (M I))) (fM (fun sg1=>h2 I (bA zp I I gk (.tail _ (.tail _ (.head _))) (M I)))))⟩,
   ⟨⟨[⟨32,fun _=>Z (eM fI) e2.Group,some 7⟩],_,2,2,I,⟨(fun _=>I),Q⟩,I,I,I,I,I,fun _ sg1 _ _=>h2 I (bq ac2 (YX _ _ q_r4) ⟨(M I),hI,Q⟩)⟩,
   ⟨⟨[⟨4,fun _=>tV (an b2 0),none⟩],_,1,2,I,⟨(fun _=>I),Q⟩,I,I,I,I,I,fun _ sg1 _ _=>h2 I (lu 2 ma I I I)⟩,
   Q⟩⟩⟩⟩⟩⟩⟩⟩⟩⟩ (fun sg1=>?_)
  refine(show RG _ _ _ _ [_,_,_,_,_,_] _ from ?_);refine hU<|iM vE I (AU e2 _) I (M I) (PQ (M I))<|bu 5 mi I<|iM vD I (xr e2 _ _) I (M I) (PQ (M I))<|bu 8 ri I<|bM zp E6 I<|bP<|aR<|bu 2 ma I<|d (kF vE yT (.head _) I (M I))<|d (ip pe (.tail _ (.tail _ (.head _))) (M I))<|d (bB hI)<|bP<|ai<|oe (.tail _ (.tail _ (.head _))) fun hN1=>bp<|hZ<|kb<|kb<|vv ?_;refine vv<|vv ?_;refine ay (jX (tD:=fun ls1 i1 s=>(r2.drop i1=ls1)/\p6 (lx tl) i q1 ls1 i1 s=some R) (Of:=fun _ i1 s=>[bx cw 31 b1 F3,bx j3 31 b (lX q1 (Y ((sg 2).h 0).1 ((sg 2).h 0).2 q1.Selects.length)),f6 aW 55 ((sg 2).h 0).1 ((sg 2).h 0).2 q1.Selects,bx eo 55 b2 (iA s (Y ((sg1 2).h 0).1 ((sg1 2).h 0).2 s.Items.length) (Y ((sg1 5).h 0).1 ((sg1 5).h 0).2 s.Joins.length)),f6 d5 88 ((sg1 2).h 0).1 ((sg1 2).h 0).2 s.Items,f6 dC 86 ((sg1 5).h 0).1 ((sg1 5).h 0).2 s.Joins]) (Gf:=fun _ i1 s=>[(1,tV (an b 0)),(2,tV (an b1 0)),(3,bf (i:Int)),(4,tV (an b2 0)),(18,tV (Y ((sg 2).h 0).1 ((sg 2).h 0).2 r.length)),(19,iG r),(20,bf (i:Int)),(38,tV (Y ((sg1 2).h 0).1 ((sg1 2).h 0).2 r2.length)),(39,iG r2),(40,bf (i1:Int))]) (fun i1 s h=>?_) (fun e3 tl1 ih1 i1 s h=>?_) r2 0 ({({({e2 with Group:=r4}:aK)with Items:=r2}:aK)with Joins:=r3}:aK) ⟨I,h⟩) (a8 I)
  ·obtain⟨hx1,h⟩:=h
   refine dh hx1 I<|aq<|aR<|bu 5 mi I<|d (kF vD yS (.tail _ (.tail _ (.tail _ (.head _)))) I (M I))<|d (ip rD (.tail _ (.tail _ (.tail _ (.tail _ (.tail _ (.head _)))))) (M I))<|d (bB hI)<|bP<|ai<|oe (.tail _ (.tail _ (.tail _ (.tail _ (.tail _ (.head _)))))) fun hN2=>?_;refine bp ?_;refine ay (jX (tD:=fun ls2 i2 s1=>(s.Joins.drop i2=ls2)/\p5 (lx tl) i q1 ls2 i2 s1=some R) (Of:=fun _ i2 s1=>[bx cw 31 b1 F3,bx j3 31 b (lX q1 (Y ((sg 2).h 0).1 ((sg 2).h 0).2 q1.Selects.length)),f6 aW 55 ((sg 2).h 0).1 ((sg 2).h 0).2 q1.Selects,bx eo 55 b2 (iA s1 (Y ((sg1 2).h 0).1 ((sg1 2).h 0).2 s1.Items.length) (Y ((sg1 5).h 0).1 ((sg1 5).h 0).2 s1.Joins.length)),f6 d5 88 ((sg1 2).h 0).1 ((sg1 2).h 0).2 s1.Items,f6 dC 86 ((sg1 5).h 0).1 ((sg1 5).h 0).2 s1.Joins]) (Gf:=fun _ i2 s1=>[(1,tV (an b 0)),(2,tV (an b1 0)),(3,bf (i:Int)),(4,tV (an b2 0)),(18,tV (Y ((sg 2).h 0).1 ((sg 2).h 0).2 r.length)),(19,iG r),(20,bf (i:Int)),(55,tV (Y ((sg1 5).h 0).1 ((sg1 5).h 0).2 s.Joins.length)),(56,iG s.Joins),(57,bf (i2:Int))]) (fun i2 s1 h=>?_) (fun e4 tl2 ih2 i2 s1 h=>?_) s.Joins 0 s ⟨I,h⟩) (a8 I)
   ·obtain⟨hx2,h⟩:=h
    refine dh hx2 I<|aq<|aA<|cu h fun r5 q_r5 h=>cu h fun r6 q_r6 h=>?_
    refine xN 7 (ts:=[tV (an b2 6),Z bD s1.Where,Z bD r5,tV (an b2 7),Z bD s1.Having,Z bD r6,tV (an b2 6)]) mixed I I I
     ⟨qN 4 I I (lu 6 xg I I I),
     ⟨fL 71 0 I I (bA (r:=eo) (x:=iA s1 (Y ((sg1 2).h 0).1 ((sg1 2).h 0).2 s1.Items.length) (Y ((sg1 5).h 0).1 ((sg1 5).h 0).2 s1.Joins.length)) iw I I Fh (.tail _ (.tail _ (.tail _ (.head _)))) (M I)),
     ⟨fL 72 1 I I (bq WB (Km _ q_r5) ⟨(M I),Q⟩),
     ⟨qN 4 I I (lu 7 uF I I I),
     ⟨fL 74 3 I I (bA (r:=eo) (x:=iA s1 (Y ((sg1 2).h 0).1 ((sg1 2).h 0).2 s1.Items.length) (Y ((sg1 5).h 0).1 ((sg1 5).h 0).2 s1.Joins.length)) iw I I Fg (.tail _ (.tail _ (.tail _ (.head _)))) (M I)),
     ⟨fL 75 4 I I (bq WB (Km _ q_r6) ⟨(M I),Q⟩),
     ⟨qN 4 I I (lu 6 xg I I I),
     Q⟩⟩⟩⟩⟩⟩⟩ ?_
    refine ka<|bM iw E8 I<|bu 7 uF I<|bM iw E7 I<|bP<|aL<|bu 0 pJ I<|d (kF zq C9 (.tail _ (.tail _ (.head _))) I (M I))<|aY I<|qe<|qf<|Eu<|qf<|d (ra (q:=aW) (y:=({({({({s1 with Where:=r5}:aK)with Having:=r6}:aK)with Items:=s1.Items}:aK)with Joins:=s1.Joins}:aK)) pj I I I I (.tail _ (.tail _ (.head _))) (fun _ _ _ ho h=>Cc (sa ho (.tail _ (.head _))) (sa ho (.head _)) h) (M I))<|d (cz tL pj (.tail _ (.tail _ (.tail _ (.tail _ (.tail _ (.head _)))))) (M I) (M I) q_e2)<|Eu<|cu h fun st q_st h=>s9 pj I aj I q_e2 (so q_st) (M I) (M I)<|kL (iE (so q_st)) 80 I<|oB (O' :=[f6 aW 55 ((sg 2).h 0).1 ((sg 2).h 0).2 st,K dC 86 ((sg1 5).h 0).1 ((sg1 5).h 0).2 s1.Joins,K d5 88 ((sg1 2).h 0).1 ((sg1 2).h 0).2 s1.Items,bx eo 55 b2 (iA ({({s1 with Where:=r5}:aK)with Having:=r6}:aK) (Y ((sg1 2).h 0).1 ((sg1 2).h 0).2 s1.Items.length) (Y ((sg1 5).h 0).1 ((sg1 5).h 0).2 s1.Joins.length)),bx cw 31 b1 F3,bx j3 31 b (lX q1 (Y ((sg 2).h 0).1 ((sg 2).h 0).2 st.length))]) (by first|(rw [iE (so q_st)];done)|(rw [iE (so q_st)];exact I)|exact I)<|br<|bn<|aq ?_;refine aL<|d (zin (Qp D hN) I)<|aY I<|br<|dI<|aM<|dI<|aM<|dI<|aM<|gj<|gj ?_;exact aO (ay (ih (i+1) ({q1 with Selects:=st}:ce) ⟨cO D,h⟩) (a8 I))
   ·obtain⟨hx2,h⟩:=h
    refine dg hx2 I<|aA<|ai<|aI I<|cu h fun e5 q_e5 h=>d (tv rD my (.tail _ (.tail _ (.tail _ (.tail _ (.tail _ (.head _)))))) (M I) (M I) q_e5 (Kx hx2))<|cu h fun e6 q_e6 h=>d (dN (r:=dC) (i:=(i2:Int)) (foff:=0) my I I cE I (.tail _ (.tail _ (.tail _ (.tail _ (.tail _ (.head _)))))) q_e6 (M I))<|aX my uP I fun b3=>gx I<|bM my aj I<|aQ 8 I<|br ?_;refine aq<|cu h fun r7 q_r7 h=>?_
    refine xN 8 (ts:=[tV (an b2 5),tV (Y ((sg1 5).h 0).1 ((sg1 5).h 0).2 s1.Joins.length),bf (i2:Int),bo bD e6.On,Z bD e6.On,Z bD r7,tV (dO ((sg1 5).h 0).1 ((i2:Int).toNat*4+0)),tV (dO ((sg1 5).h 0).1 ((i2:Int).toNat*4+3))]) mixed I I I
     ⟨qN 4 I I (lu 5 mi I I I),
     ⟨fL 62 0 I I (kF vD yS (.tail _ (.tail _ (.tail _ (.head _)))) I (M I)),
     ⟨fv I I,
     ⟨qN 8 I I (kO zO sU I I),
     ⟨fA 3 iw I I,
     ⟨fL 66 4 I I (bq WB (Km _ q_r7) ⟨(M I),Q⟩),
     ⟨eh 63 1 64 2 I I I (cz rD my (.tail _ (.tail _ (.tail _ (.tail _ (.tail _ (.head _)))))) (M I) (M I) q_e6),
     ⟨fL 68 6 I I (dQ (o:=(i2:Int).toNat*4+0) (n:=(i2:Int).toNat*4+3) zO I (.tail _ (.tail _ (.tail _ (.tail _ (.tail _ (.head _)))))) q_e6 (M I) I),
     Q⟩⟩⟩⟩⟩⟩⟩⟩ ?_
    refine Eu<|cu h fun st1 q_st1 h=>s9 iw I Rc I q_e6 (so q_st1) (M I) (M I)<|kL (iE (so q_st1)) 63 I<|oB (O' :=[f6 dC 86 ((sg1 5).h 0).1 ((sg1 5).h 0).2 st1,bx cw 31 b1 F3,bx j3 31 b (lX q1 (Y ((sg 2).h 0).1 ((sg 2).h 0).2 q1.Selects.length)),f6 aW 55 ((sg 2).h 0).1 ((sg 2).h 0).2 q1.Selects,bx eo 55 b2 (iA s1 (Y ((sg1 2).h 0).1 ((sg1 2).h 0).2 s1.Items.length) (Y ((sg1 5).h 0).1 ((sg1 5).h 0).2 st1.length)),f6 d5 88 ((sg1 2).h 0).1 ((sg1 2).h 0).2 s1.Items]) (by first|(rw [iE (so q_st1)];done)|(rw [iE (so q_st1)];exact I)|exact I)<|br<|cS hx2 hN2 I<|fG<|fG<|fG<|fG<|fG ?_;exact aO (ay (ih2 (i2+1) ({s1 with Joins:=st1}:aK) ⟨cO hx2,h⟩) (a8 I))
  ·obtain⟨hx1,h⟩:=h
   refine dg hx1 I<|aA<|ai<|aI I<|cu h fun e7 q_e7 h=>d (tv pe nH (.tail _ (.tail _ (.tail _ (.tail _ (.head _))))) (M I) (M I) q_e7 (Kx hx1))<|cu h fun e8 q_e8 h=>d (dN (r:=d5) (i:=(i1:Int)) (foff:=0) nH I I cE I (.tail _ (.tail _ (.tail _ (.tail _ (.head _))))) q_e8 (M I))<|aX nH tg I fun b4=>gx I<|bM nH aj I<|aQ 6 I<|br ?_;refine aq<|cu h fun r8 q_r8 h=>?_
   refine xN 8 (ts:=[tV (an b2 2),tV (Y ((sg1 2).h 0).1 ((sg1 2).h 0).2 s.Items.length),bf (i1:Int),bo bD e8.Tree,Z bD e8.Tree,Z bD r8,tV (dO ((sg1 2).h 0).1 ((i1:Int).toNat*2+0)),tV (dO ((sg1 2).h 0).1 ((i1:Int).toNat*2+0))]) mixed I I I
    ⟨qN 4 I I (lu 2 ma I I I),
    ⟨fL 45 0 I I (kF vE yT (.tail _ (.tail _ (.tail _ (.head _)))) I (M I)),
    ⟨fv I I,
    ⟨qN 6 I I (kO ql j9 I I),
    ⟨fA 3 iw I I,
    ⟨fL 49 4 I I (bq WB (Km _ q_r8) ⟨(M I),Q⟩),
    ⟨eh 46 1 47 2 I I I (cz pe nH (.tail _ (.tail _ (.tail _ (.tail _ (.head _))))) (M I) (M I) q_e8),
    ⟨fL 51 6 I I (dQ (o:=(i1:Int).toNat*2+0) (n:=(i1:Int).toNat*2+0) ql I (.tail _ (.tail _ (.tail _ (.tail _ (.head _))))) q_e8 (M I) I),
    Q⟩⟩⟩⟩⟩⟩⟩⟩ ?_
   refine qe<|cu h fun st2 q_st2 h=>s9 iw I IR I q_e8 (so q_st2) (M I) (M I)<|kL (iE (so q_st2)) 46 I<|oB (O' :=[f6 d5 88 ((sg1 2).h 0).1 ((sg1 2).h 0).2 st2,bx cw 31 b1 F3,bx j3 31 b (lX q1 (Y ((sg 2).h 0).1 ((sg 2).h 0).2 q1.Selects.length)),f6 aW 55 ((sg 2).h 0).1 ((sg 2).h 0).2 q1.Selects,bx eo 55 b2 (iA s (Y ((sg1 2).h 0).1 ((sg1 2).h 0).2 st2.length) (Y ((sg1 5).h 0).1 ((sg1 5).h 0).2 s.Joins.length)),f6 dC 86 ((sg1 5).h 0).1 ((sg1 5).h 0).2 s.Joins]) (by first|(rw [iE (so q_st2)];done)|(rw [iE (so q_st2)];exact I)|exact I)<|br<|cS hx1 hN1 I<|fG<|dI<|fG<|fG<|fG<|fG ?_;exact aO (ay (ih1 (i1+1) ({s with Items:=st2}:aK) ⟨cO hx1,h⟩) (a8 I))

end Go.Proofs.YthbdkceckjihgaaGreatDoor

