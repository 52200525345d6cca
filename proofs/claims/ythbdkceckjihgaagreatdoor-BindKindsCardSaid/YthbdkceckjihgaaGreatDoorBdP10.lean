/- cm of this claim: P10. -/
import Derived.Test.YthbdkceckjihgaaGreatDoorBdT
import Derived.Test.YthbdkceckjihgaaGreatDoorBdP9
set_option linter.all false
namespace Go.Proofs.YthbdkceckjihgaaGreatDoor
open Go
set_option maxRecDepth 100000

def Rh l most{R}(h:pc l most=some R):jG aQ 22 [qq l,aW most] false Q 3 R:=by
 exact jG.of Tryz.func22 I I I fun w0 S0=>bl<|cu false Q 3<|af (ck zR)<|bX<|bl<|iz (r:=Q) (ys:=xZ) (xs:=[]) f8 da I I I I I trivial I fun l1 c=>bo I<|bo I<|cR f8 I<|bo I<|af (lN (M I) (M I))<|cL h fun y q_y h=>af (j9 f8 da I (M I) (M I) q_y)<|cL h fun x q_x h=>ev da I I I I f8 I I (M I) (M I) q_x fun l2 c1=>a8 I<|so h▸ni I I
def Um l most{R}(h:pc l most=some R):de aQ 22 [qq l,aW most] (qq R):=(Rh _ _ h).spec

def Rc l most{R}(h:mU l most=some R):jG aQ 30 [hM (cA) l,aW most] false cA 110 R:=by
 exact jG.of Tryz.func30 I I I fun w0 S0=>bl<|cu false cA 110<|af (ck zR)<|bX<|bl<|iz (r:=cA) (ys:=([]:List bH)) (xs:=[]) sS lL I I I I I trivial I fun l1 c=>bo I<|bo I<|cR sS I<|bo I<|af (lN (M I) (M I))<|cL h fun y q_y h=>af (j9 sS lL I (M I) (M I) q_y)<|cL h fun x q_x h=>ev lL I I I I sS I I (M I) (M I) q_x fun l2 c1=>a8 I<|so h▸ni I I
def Rb l most{R}(h:jW l most=some R):jG aQ 31 [hM (cj) l,aW most] false cj 113 R:=by
 exact jG.of Tryz.func31 I I I fun w0 S0=>bl<|cu false cj 113<|af (ck zR)<|bX<|bl<|iz (r:=cj) (ys:=([]:List bp)) (xs:=[]) ra kg I I I I I trivial I fun l1 c=>bo I<|bo I<|cR ra I<|bo I<|af (lN (M I) (M I))<|cL h fun y q_y h=>af (j9 ra kg I (M I) (M I) q_y)<|cL h fun x q_x h=>ev kg I I I I ra I I (M I) (M I) q_x fun l2 c1=>a8 I<|so h▸ni I I
def Ui l most{R}(h:jW l most=some R):de aQ 31 [hM (cj) l,aW most] (hM (cj) R):=(Rb _ _ h).spec

def Gu c{R}(h:rq c=some R):de aQ 10 [K bq c] (K bq R):=by
 refine ec Tryz.func10 I<|bl<|d6 I<|aV pn oF I fun b=>bX<|bl<|bW pR jl zu I<|KI h X4 (Rc _ _) (dU I) fun r h l c1=>af (co (y:=ji (⟨r⟩:au) (Y l c1 r.length)) pn Vu xW (⟨_,_,_,_,_,I,Ci,I,(Qd (M I)),I⟩))<|cu false cA 110<|aV (r:=gy) (x:=ji Fz (Y none 0 (([]:List bH).length))) pn xW I fun b1=>kc (r' :=gy) pn I (gS I) I (M I) (M I)<|dx<|rQ<|bX<|bv ?_;refine bF 0 pR I<|af (iF zu oa (.head _) I (M I))<|af (fW sS (.tail _ (.head _)) (M I))<|af (bL hI)<|bX<|aq<|lm (.tail _ (.head _)) fun hN=>bO<|gZ<|gZ<|lE ?_;refine aO (jc (aA:=fun ls i out=>(r.drop i=ls)/\kx ls i out=some R) (Of:=fun _ i out=>[bx bq 24 b Fz,bx gy 24 b1 (ji out (Y l c1 out.Tables.length)),fq cA 110 l c1 out.Tables]) (Gf:=fun _ i out=>[(2,tV (ak b 0)),(3,tV (ak b1 0)),(11,rW l c1 r),(12,kO r),(13,aW (i:Int))]) (fun i out h=>?_) (fun e tl ih i out h=>?_) r 0 ({(⟨r⟩:au)with Tables:=r}:au) ⟨I,h⟩) (bu I)
 ·obtain⟨D,h⟩:=h
  refine ea D I<|aJ<|bl<|jR<|oZ<|af (qH (q:=bq) (y:=out) pn I I I I (.tail _ (.tail _ (.head _))) (fun _ _ _ ho h=>yS (rn ho (.head _)) h) (M I))<|dx<|cn pn al I<|fR<|dm 2 I ?_;exact aP<|aP<|so h▸q9 I pn I I I
 ·obtain⟨D,h⟩:=h
  refine d9 D I<|aN<|aq<|aI I<|cL h fun e1 q_e1 h=>af (o9 sS lL (.tail _ (.tail _ (.head _))) (M I) (M I) q_e1 (Gy D))<|cL h fun e2 q_e2 h=>af (dd (r:=cA) (i:=(i:Int)) (foff:=0) lL I I cr I (.tail _ (.tail _ (.head _))) q_e2 (M I))<|aV lL xX I fun b2=>j3 I<|cn lL al I<|aS 5 I<|bR ?_;refine aJ<|cL h fun r1 q_r1 h=>cL h fun r2 q_r2 h=>cL h fun st q_st h=>?_
  refine fm 15 [tc (tV (ak b1 0)),tc (rW l c1 out.Tables),tc (aW (i:Int)),tc (tV (ak b1 0)),tc (rW l c1 out.Tables),tc (aW (i:Int)),tc (aU (eF cj) e2.Columns),tc (hM (cj) e2.Columns),tc (hM (cj) r1),tc (aU UF e2.Keys),tc (qq e2.Keys),tc (qq r2),tc (tV (cK l ((i:Int).toNat*3+0))),tc (tV (cK l ((i:Int).toNat*3+1))),tc (rY)] [false,false,false,false,false,false,false,false,false,false,false,false,false,false,true] [fun _=>[bx bq 24 b Fz,bx gy 24 b1 (ji out (Y l c1 out.Tables.length)),fq cA 110 l c1 out.Tables],fun sg=>[fq cA 110 l c1 st,bx bq 24 b Fz,bx gy 24 b1 (ji out (Y l c1 out.Tables.length))]] I mixed I I I I I
   ⟨⟨[⟨3,fun _=>tV (ak b1 0),none⟩],_,0,0,I,⟨(fun _=>I),J⟩,I,I,I,I,I,fun _ sg _ _=>aE I (oy 0 pR I I I)⟩,
   ⟨⟨[⟨18,fun _=>tV (ak b1 0),some 0⟩],_,0,0,I,⟨(fun _=>I),J⟩,I,I,I,I,I,eY (fun sg=>aE I (iF zu oa (.tail _ (.head _)) I (M I)))⟩,
   ⟨⟨[⟨4,fun _=>K Q (i:Int),none⟩],_,0,0,I,⟨(fun _=>I),J⟩,I,I,I,I,I,fun _ sg _ _=>aE I (jr I)⟩,
   ⟨⟨[⟨3,fun _=>tV (ak b1 0),none⟩],_,0,1,I,⟨(fun _=>I),J⟩,I,I,I,I,I,fun _ sg _ _=>aE I (oy 0 pR I I I)⟩,
   ⟨⟨[⟨21,fun _=>tV (ak b1 0),some 3⟩],_,0,1,I,⟨(fun _=>I),J⟩,I,I,I,I,I,qx (fun sg=>aE I (iF zu oa (.tail _ (.head _)) I (M I))) (eY (fun sg=>aE I (iF zu oa (.tail _ (.tail _ (.head _))) I (M I))))⟩,
   ⟨⟨[⟨4,fun _=>K Q (i:Int),none⟩],_,0,1,I,⟨(fun _=>I),J⟩,I,I,I,I,I,fun _ sg _ _=>aE I (jr I)⟩,
   ⟨⟨[⟨5,fun _=>aU cA e2,none⟩],_,0,0,I,⟨(fun _=>I),J⟩,I,I,I,I,I,fun _ sg _ _=>aE I (wP pd kX I I)⟩,
   ⟨⟨[⟨24,fun _=>aU (eF cj) e2.Columns,some 6⟩],_,0,0,I,⟨(fun _=>I),J⟩,I,I,I,I,I,fun _ sg _ _=>aE I (sX wq I I)⟩,
   ⟨⟨[⟨25,fun _=>K (eF cj) e2.Columns,some 7⟩],_,0,0,I,⟨(fun _=>I),J⟩,I,I,I,I,I,fun _ sg _ _=>aE I (bN X3 (Ui _ _ q_r1) ⟨(M I),hI,J⟩)⟩,
   ⟨⟨[⟨5,fun _=>aU cA e2,none⟩],_,0,0,I,⟨(fun _=>I),J⟩,I,I,I,I,I,fun _ sg _ _=>aE I (wP BG xk I I)⟩,
   ⟨⟨[⟨27,fun _=>aU A7 e2.Keys,some 9⟩],_,0,0,I,⟨(fun _=>I),J⟩,I,I,I,I,I,fun _ sg _ _=>aE I (sX iC I I)⟩,
   ⟨⟨[⟨28,fun _=>K A7 e2.Keys,some 10⟩],_,0,0,I,⟨(fun _=>I),J⟩,I,I,I,I,I,fun _ sg _ _=>aE I (bN X7 (Um _ _ q_r2) ⟨(M I),hI,J⟩)⟩,
   ⟨⟨[⟨19,fun _=>tV (Y l c1 out.Tables.length),some 1⟩,⟨20,fun _=>K Q (i:Int),some 2⟩],_,0,0,I,⟨(fun _=>I),(fun _=>I),J⟩,I,I,I,I,I,eY (fun sg=>aE I (bU sS lL (.tail _ (.tail _ (.head _))) (M I) (M I) q_e2))⟩,
   ⟨⟨[⟨30,fun _=>tV (cK l ((i:Int).toNat*3+0)),some 12⟩],_,0,0,I,⟨(fun _=>I),J⟩,I,I,I,I,I,eY (fun sg=>aE I (cM (o:=(i:Int).toNat*3+0) (n:=(i:Int).toNat*3+1) pd I (.tail _ (.tail _ (.head _))) q_e2 (M I) I))⟩,
   ⟨⟨[⟨31,fun _=>tV (cK l ((i:Int).toNat*3+1)),some 13⟩,⟨26,fun _=>K (eF cj) r1,some 8⟩],_,I,⟨(fun _=>I),(fun _=>I),J⟩,I,I,I,fun sg=>bJ I (EffOK.fr2 (xw (r:=cA) (i:=(i:Int)) (foff:=1) wq I wY I q_e2 (so q_st) (M I) (M I)))⟩,
   J⟩⟩⟩⟩⟩⟩⟩⟩⟩⟩⟩⟩⟩⟩⟩ (fun sg=>?_)
  refine(show RG _ _ _ _ [_,_,_] _ from ?_);refine lw (O' :=[fq cA 110 l c1 st,bx bq 24 b Fz,bx gy 24 b1 (ji out (Y l c1 st.length))]) (by first|(rw [fV (so q_st)];done)|(rw [fV (so q_st)];exact I)|exact I)<|cL h fun e3 q_e3 h=>af (bU sS lL (.head _) (M I) (M I) q_e3 ((fV (so q_st)).symm))<|af (cM (o:=(i:Int).toNat*3+0) (n:=(i:Int).toNat*3+2) BG I (.head _) q_e3 (M I) I)<|cL h fun st1 q_st1 h=>oX iC I Ja I q_e3 (so q_st1) (M I) (M I)<|lw (O' :=[fq cA 110 l c1 st1,bx bq 24 b Fz,bx gy 24 b1 (ji out (Y l c1 st1.length))]) (by first|(rw [fV (so q_st1)];done)|(rw [fV (so q_st1)];exact I)|exact I)<|bR<|dQ D hN I<|iO<|iO ?_;exact bf (aO (ih (i+1) ({out with Tables:=st1}:au) ⟨dJ D,h⟩) (bu I))

def Ra l most{R}(h:ml l most=some R):jG aQ 32 [hM (bb) l,aW most] false bb 55 R:=by
 exact jG.of Tryz.func32 I I I fun w0 S0=>bl<|cu false bb 55<|af (ck zR)<|bX<|bl<|iz (r:=bb) (ys:=([]:List ay)) (xs:=[]) wK sB I I I I I trivial I fun l1 c=>bo I<|bo I<|cR wK I<|bo I<|af (lN (M I) (M I))<|cL h fun y q_y h=>af (j9 wK sB I (M I) (M I) q_y)<|cL h fun x q_x h=>ev sB I I I I wK I I (M I) (M I) q_x fun l2 c1=>a8 I<|so h▸ni I I
def Q9 l most{R}(h:lP l most=some R):jG aQ 33 [hM (jg) l,aW most] false jg 57 R:=by
 exact jG.of Tryz.func33 I I I fun w0 S0=>bl<|cu false jg 57<|af (ck zR)<|bX<|bl<|iz (r:=jg) (ys:=([]:List tW)) (xs:=[]) A5 Bd I I I I I trivial I fun l1 c=>bo I<|bo I<|cR A5 I<|bo I<|af (lN (M I) (M I))<|cL h fun y q_y h=>af (j9 A5 Bd I (M I) (M I) q_y)<|cL h fun x q_x h=>ev Bd I I I I A5 I I (M I) (M I) q_x fun l2 c1=>a8 I<|so h▸ni I I
def Uh l most{R}(h:lP l most=some R):de aQ 33 [hM (jg) l,aW most] (hM (jg) R):=(Q9 _ _ h).spec

def Q8 l most{R}(h:nw l most=some R):jG aQ 34 [hM (dC) l,aW most] false dC 88 R:=by
 exact jG.of Tryz.func34 I I I fun w0 S0=>bl<|cu false dC 88<|af (ck zR)<|bX<|bl<|iz (r:=dC) (ys:=([]:List eG)) (xs:=[]) sU pY I I I I I trivial I fun l1 c=>bo I<|bo I<|cR sU I<|bo I<|af (lN (M I) (M I))<|cL h fun y q_y h=>af (j9 sU pY I (M I) (M I) q_y)<|cL h fun x q_x h=>ev pY I I I I sU I I (M I) (M I) q_x fun l2 c1=>a8 I<|so h▸ni I I
def Q7 l most{R}(h:nv l most=some R):jG aQ 35 [hM (eZ) l,aW most] false eZ 86 R:=by
 exact jG.of Tryz.func35 I I I fun w0 S0=>bl<|cu false eZ 86<|af (ck zR)<|bX<|bl<|iz (r:=eZ) (ys:=([]:List lT)) (xs:=[]) zi yb I I I I I trivial I fun l1 c=>bo I<|bo I<|cR zi I<|bo I<|af (lN (M I) (M I))<|cL h fun y q_y h=>af (j9 zi yb I (M I) (M I) q_y)<|cL h fun x q_x h=>ev yb I I I I zi I I (M I) (M I) q_x fun l2 c1=>a8 I<|so h▸ni I I
def Q6 l most{R}(h:kW l most=some R):jG aQ 36 [hM (eH) l,aW most] false eH 91 R:=by
 exact jG.of Tryz.func36 I I I fun w0 S0=>bl<|cu false eH 91<|af (ck zR)<|bX<|bl<|iz (r:=eH) (ys:=([]:List iN)) (xs:=[]) BN zr I I I I I trivial I fun l1 c=>bo I<|bo I<|cR BN I<|bo I<|af (lN (M I) (M I))<|cL h fun y q_y h=>af (j9 BN zr I (M I) (M I) q_y)<|cL h fun x q_x h=>ev zr I I I I BN I I (M I) (M I) q_x fun l2 c1=>a8 I<|so h▸ni I I
def Ug l most{R}(h:kW l most=some R):de aQ 36 [hM (eH) l,aW most] (hM (eH) R):=(Q6 _ _ h).spec

def Q3 l most{R}(h:nu l most=some R):jG aQ 82 [hM (cz) l,aW most] false cz 162 R:=by
 exact jG.of Tryz.func82 I I I fun w0 S0=>bl<|cu false cz 162<|af (ck zR)<|bX<|bl<|iz (r:=cz) (ys:=([]:List cw)) (xs:=[]) sr oB I I I I I trivial I fun l1 c=>bo I<|bo I<|cR sr I<|bo I<|af (lN (M I) (M I))<|cL h fun y q_y h=>af (j9 sr oB I (M I) (M I) q_y)<|cL h fun x q_x h=>ev oB I I I I sr I I (M I) (M I) q_x fun l2 c1=>a8 I<|so h▸ni I I
def Gq t{R}(h:mj t=some R):de aQ 37 [K bt t] (K bt R):=by
 refine ec Tryz.func37 I<|bl<|d6 I<|aV lr pU I fun b=>bX<|bl<|bW oS kB zt I<|KI h XF (Q3 _ _) (dU I) fun r h l c=>af (co (y:=lz (⟨r⟩:cy) (Y l c r.length)) lr Vs Eo (⟨_,_,_,_,_,I,Hm,I,(Qd (M I)),I⟩))<|cu false cz 162<|aV (r:=jN) (x:=lz ox (Y none 0 (([]:List cw).length))) lr Eo I fun b1=>kc (r' :=jN) lr I (gS I) I (M I) (M I)<|dx<|rQ<|bX<|bv ?_;refine bF 0 oS I<|af (iF zt AP (.head _) I (M I))<|af (fW sr (.tail _ (.head _)) (M I))<|af (bL hI)<|bX<|aq<|lm (.tail _ (.head _)) fun hN=>bO<|gZ<|gZ<|lE ?_;refine aO (jc (aA:=fun ls i out=>(r.drop i=ls)/\ky ls i out=some R) (Of:=fun _ i out=>[bx bt 52 b ox,bx jN 52 b1 (lz out (Y l c out.Nodes.length)),fq cz 162 l c out.Nodes]) (Gf:=fun _ i out=>[(2,tV (ak b 0)),(3,tV (ak b1 0)),(12,kO r),(13,aW (i:Int))]) (fun i out h=>?_) (fun e tl ih i out h=>?_) r 0 ({(⟨r⟩:cy)with Nodes:=r}:cy) ⟨I,h⟩) (bu I)
 ·obtain⟨D,h⟩:=h
  refine ea D I<|aJ<|bl<|jR<|oZ<|af (qH (q:=bt) (y:=out) lr I I I I (.tail _ (.tail _ (.head _))) (fun _ _ _ ho h=>Di (rn ho (.head _)) h) (M I))<|dx<|cn lr al I<|fR<|dm 2 I ?_;exact aP<|aP<|so h▸q9 I lr I I I
 ·obtain⟨D,h⟩:=h
  refine d9 D I<|aN<|aq<|aI I<|bw I<|bl<|bF 0 oS I<|af (iF zt AP (.tail _ (.head _)) I (M I))<|bo I<|cL h fun e1 q_e1 h=>?_;refine af (bU sr oB (.tail _ (.tail _ (.head _))) (M I) (M I) q_e1)<|bw I<|cL h fun y q_y h=>cL h fun y1 q_y1 h=>cL h fun y2 q_y2 h=>cL h fun st q_st h=>cL h fun e2 q_e2 h=>cL h fun st1 q_st1 h=>?_
  refine fm 45 [tc (tV (cK l ((i:Int).toNat*9+0))),tc (tV (cK l ((i:Int).toNat*9+0))),tc (tV (cK l ((i:Int).toNat*9+0))),tc (tV (cK l ((i:Int).toNat*9+0))),tc (tV (cK l ((i:Int).toNat*9+0))),tc (tV (cK l ((i:Int).toNat*9+3))),tc (tV (cK l ((i:Int).toNat*9+6))),tc (K rS e1.Value.S),tc (tV (cK l ((i:Int).toNat*9+0))),tc (tV (cK l ((i:Int).toNat*9+0))),tc (tV (cK l ((i:Int).toNat*9+3))),tc (tV (cK l ((i:Int).toNat*9+6))),tc (K rS e1.Value.S),tc (kO e1.Value.S),tc (aW (min (e1.Value.S.length:Int) (60:Int))),tc (K rS y),tc (tV (cK l ((i:Int).toNat*9+0))),tc (tV (cK l ((i:Int).toNat*9+0))),tc (tV (cK l ((i:Int).toNat*9+7))),tc (K rS e1.Table),tc (tV (cK l ((i:Int).toNat*9+0))),tc (tV (cK l ((i:Int).toNat*9+0))),tc (tV (cK l ((i:Int).toNat*9+7))),tc (K rS e1.Table),tc (kO e1.Table),tc (aW (min (e1.Table.length:Int) (40:Int))),tc (K rS y1),tc (tV (cK l ((i:Int).toNat*9+0))),tc (tV (cK l ((i:Int).toNat*9+0))),tc (tV (cK l ((i:Int).toNat*9+8))),tc (K rS e1.Name),tc (tV (cK l ((i:Int).toNat*9+0))),tc (tV (cK l ((i:Int).toNat*9+0))),tc (tV (cK l ((i:Int).toNat*9+8))),tc (K rS e1.Name),tc (kO e1.Name),tc (aW (min (e1.Name.length:Int) (40:Int))),tc (K rS y2),tc (tV (cK l ((i:Int).toNat*9+0))),tc (tV (cK l ((i:Int).toNat*9+3))),tc (tV (cK l ((i:Int).toNat*9+6))),tc (rY),tc (tV (cK l ((i:Int).toNat*9+0))),tc (tV (cK l ((i:Int).toNat*9+7))),tc (rY)] [false,false,false,false,false,false,false,false,false,false,false,false,false,false,false,false,false,false,false,false,false,false,false,false,false,false,false,false,false,false,false,false,false,false,false,false,false,false,false,false,false,true,false,false,true] [fun _=>[bx bt 52 b ox,bx jN 52 b1 (lz out (Y l c out.Nodes.length)),fq cz 162 l c out.Nodes],fun sg=>[fq cz 162 l c st,bx bt 52 b ox,bx jN 52 b1 (lz out (Y l c out.Nodes.length))],fun sg=>[fq cz 162 l c st1,bx bt 52 b ox,bx jN 52 b1 (lz out (Y l c out.Nodes.length))]] I mixed I I I I I
   ⟨⟨[⟨5,fun _=>tV (cK l ((i:Int).toNat*9+0)),none⟩],_,0,0,I,⟨(fun _=>I),J⟩,I,I,I,I,I,fun _ sg _ _=>aE I (jr I)⟩,
   ⟨⟨[⟨5,fun _=>tV (cK l ((i:Int).toNat*9+0)),none⟩],_,0,1,I,⟨(fun _=>I),J⟩,I,I,I,I,I,fun _ sg _ _=>aE I (jr I)⟩,
   ⟨⟨[⟨5,fun _=>tV (cK l ((i:Int).toNat*9+0)),none⟩],_,0,2,I,⟨(fun _=>I),J⟩,I,I,I,I,I,fun _ sg _ _=>aE I (jr I)⟩,
   ⟨⟨[⟨5,fun _=>tV (cK l ((i:Int).toNat*9+0)),none⟩],_,0,0,I,⟨(fun _=>I),J⟩,I,I,I,I,I,fun _ sg _ _=>aE I (jr I)⟩,
   ⟨⟨[⟨23,fun _=>tV (cK l ((i:Int).toNat*9+0)),some 3⟩],_,0,0,I,⟨(fun _=>I),J⟩,I,I,I,I,I,eY (fun sg=>aE I (qa (.tail _ (.tail _ (.head _))) q_e1 (M I)))⟩,
   ⟨⟨[⟨24,fun _=>tV (cK l ((i:Int).toNat*9+0)),some 4⟩],_,0,0,I,⟨(fun _=>I),J⟩,I,I,I,I,I,eY (fun sg=>aE I (cM (o:=(i:Int).toNat*9+0) (n:=(i:Int).toNat*9+3) rC I (.tail _ (.tail _ (.head _))) q_e1 (M I) I))⟩,
   ⟨⟨[⟨25,fun _=>tV (cK l ((i:Int).toNat*9+3)),some 5⟩],_,0,0,I,⟨(fun _=>I),J⟩,I,I,I,I,I,eY (fun sg=>aE I (cM (o:=(i:Int).toNat*9+3) (n:=(i:Int).toNat*9+6) vO I (.tail _ (.tail _ (.head _))) q_e1 (M I) I))⟩,
   ⟨⟨[⟨26,fun _=>tV (cK l ((i:Int).toNat*9+6)),some 6⟩],_,0,0,I,⟨(fun _=>I),J⟩,I,I,I,I,I,eY (fun sg=>aE I (dd (r:=cz) (i:=(i:Int)) (foff:=6) nR I I (fg nK qN) I (.tail _ (.tail _ (.head _))) q_e1 (M I)))⟩,
   ⟨⟨[⟨5,fun _=>tV (cK l ((i:Int).toNat*9+0)),none⟩],_,0,0,I,⟨(fun _=>I),J⟩,I,I,I,I,I,fun _ sg _ _=>aE I (jr I)⟩,
   ⟨⟨[⟨28,fun _=>tV (cK l ((i:Int).toNat*9+0)),some 8⟩],_,0,0,I,⟨(fun _=>I),J⟩,I,I,I,I,I,eY (fun sg=>aE I (qa (.tail _ (.tail _ (.head _))) q_e1 (M I)))⟩,
   ⟨⟨[⟨29,fun _=>tV (cK l ((i:Int).toNat*9+0)),some 9⟩],_,0,0,I,⟨(fun _=>I),J⟩,I,I,I,I,I,eY (fun sg=>aE I (cM (o:=(i:Int).toNat*9+0) (n:=(i:Int).toNat*9+3) rC I (.tail _ (.tail _ (.head _))) q_e1 (M I) I))⟩,
   ⟨⟨[⟨30,fun _=>tV (cK l ((i:Int).toNat*9+3)),some 10⟩],_,0,0,I,⟨(fun _=>I),J⟩,I,I,I,I,I,eY (fun sg=>aE I (cM (o:=(i:Int).toNat*9+3) (n:=(i:Int).toNat*9+6) vO I (.tail _ (.tail _ (.head _))) q_e1 (M I) I))⟩,
   ⟨⟨[⟨31,fun _=>tV (cK l ((i:Int).toNat*9+6)),some 11⟩],_,0,0,I,⟨(fun _=>I),J⟩,I,I,I,I,I,eY (fun sg=>aE I (dd (r:=cz) (i:=(i:Int)) (foff:=6) nR I I (fg nK qN) I (.tail _ (.tail _ (.head _))) q_e1 (M I)))⟩,
   ⟨⟨[⟨32,fun _=>K rS e1.Value.S,some 12⟩],_,0,0,I,⟨(fun _=>I),J⟩,I,I,I,I,I,fun _ sg _ _=>aE I (vG hY (M I))⟩,
   ⟨⟨[⟨33,fun _=>K Q (e1.Value.S.length:Int),some 13⟩],_,0,0,I,⟨(fun _=>I),J⟩,I,I,I,I,I,fun _ sg _ _=>aE I (lN (M I) hI)⟩,
   ⟨⟨[⟨27,fun _=>K rS e1.Value.S,some 7⟩,⟨34,fun _=>K Q (min (e1.Value.S.length:Int) (60:Int)),some 14⟩],_,0,0,I,⟨(fun _=>I),(fun _=>I),J⟩,I,I,I,I,I,fun _ sg _ _=>aE I (zM hY (M I) (M I) q_y)⟩,
   ⟨⟨[⟨5,fun _=>tV (cK l ((i:Int).toNat*9+0)),none⟩],_,0,0,I,⟨(fun _=>I),J⟩,I,I,I,I,I,fun _ sg _ _=>aE I (jr I)⟩,
   ⟨⟨[⟨36,fun _=>tV (cK l ((i:Int).toNat*9+0)),some 16⟩],_,0,0,I,⟨(fun _=>I),J⟩,I,I,I,I,I,eY (fun sg=>aE I (qa (.tail _ (.tail _ (.head _))) q_e1 (M I)))⟩,
   ⟨⟨[⟨37,fun _=>tV (cK l ((i:Int).toNat*9+0)),some 17⟩],_,0,0,I,⟨(fun _=>I),J⟩,I,I,I,I,I,eY (fun sg=>aE I (cM (o:=(i:Int).toNat*9+0) (n:=(i:Int).toNat*9+7) vM I (.tail _ (.tail _ (.head _))) q_e1 (M I) I))⟩,
   ⟨⟨[⟨38,fun _=>tV (cK l ((i:Int).toNat*9+7)),some 18⟩],_,0,0,I,⟨(fun _=>I),J⟩,I,I,I,I,I,eY (fun sg=>aE I (dd (r:=cz) (i:=(i:Int)) (foff:=7) nR I I sL I (.tail _ (.tail _ (.head _))) q_e1 (M I)))⟩,
   ⟨⟨[⟨5,fun _=>tV (cK l ((i:Int).toNat*9+0)),none⟩],_,0,0,I,⟨(fun _=>I),J⟩,I,I,I,I,I,fun _ sg _ _=>aE I (jr I)⟩,
   ⟨⟨[⟨40,fun _=>tV (cK l ((i:Int).toNat*9+0)),some 20⟩],_,0,0,I,⟨(fun _=>I),J⟩,I,I,I,I,I,eY (fun sg=>aE I (qa (.tail _ (.tail _ (.head _))) q_e1 (M I)))⟩,
   ⟨⟨[⟨41,fun _=>tV (cK l ((i:Int).toNat*9+0)),some 21⟩],_,0,0,I,⟨(fun _=>I),J⟩,I,I,I,I,I,eY (fun sg=>aE I (cM (o:=(i:Int).toNat*9+0) (n:=(i:Int).toNat*9+7) vM I (.tail _ (.tail _ (.head _))) q_e1 (M I) I))⟩,
   ⟨⟨[⟨42,fun _=>tV (cK l ((i:Int).toNat*9+7)),some 22⟩],_,0,0,I,⟨(fun _=>I),J⟩,I,I,I,I,I,eY (fun sg=>aE I (dd (r:=cz) (i:=(i:Int)) (foff:=7) nR I I sL I (.tail _ (.tail _ (.head _))) q_e1 (M I)))⟩,
   ⟨⟨[⟨43,fun _=>K rS e1.Table,some 23⟩],_,0,1,I,⟨(fun _=>I),J⟩,I,I,I,I,I,fun _ sg _ _=>aE I (vG hY (M I))⟩,
   ⟨⟨[⟨44,fun _=>K Q (e1.Table.length:Int),some 24⟩],_,0,1,I,⟨(fun _=>I),J⟩,I,I,I,I,I,fun _ sg _ _=>aE I (lN (M I) hI)⟩,
   ⟨⟨[⟨39,fun _=>K rS e1.Table,some 19⟩,⟨45,fun _=>K Q (min (e1.Table.length:Int) (40:Int)),some 25⟩],_,0,1,I,⟨(fun _=>I),(fun _=>I),J⟩,I,I,I,I,I,fun _ sg _ _=>aE I (zM hY (M I) (M I) q_y1)⟩,
   ⟨⟨[⟨5,fun _=>tV (cK l ((i:Int).toNat*9+0)),none⟩],_,0,0,I,⟨(fun _=>I),J⟩,I,I,I,I,I,fun _ sg _ _=>aE I (jr I)⟩,
   ⟨⟨[⟨47,fun _=>tV (cK l ((i:Int).toNat*9+0)),some 27⟩],_,0,0,I,⟨(fun _=>I),J⟩,I,I,I,I,I,eY (fun sg=>aE I (qa (.tail _ (.tail _ (.head _))) q_e1 (M I)))⟩,
   ⟨⟨[⟨48,fun _=>tV (cK l ((i:Int).toNat*9+0)),some 28⟩],_,0,0,I,⟨(fun _=>I),J⟩,I,I,I,I,I,eY (fun sg=>aE I (cM (o:=(i:Int).toNat*9+0) (n:=(i:Int).toNat*9+8) tB I (.tail _ (.tail _ (.head _))) q_e1 (M I) I))⟩,
   ⟨⟨[⟨49,fun _=>tV (cK l ((i:Int).toNat*9+8)),some 29⟩],_,0,0,I,⟨(fun _=>I),J⟩,I,I,I,I,I,eY (fun sg=>aE I (dd (r:=cz) (i:=(i:Int)) (foff:=8) nR I I qk I (.tail _ (.tail _ (.head _))) q_e1 (M I)))⟩,
   ⟨⟨[⟨5,fun _=>tV (cK l ((i:Int).toNat*9+0)),none⟩],_,0,0,I,⟨(fun _=>I),J⟩,I,I,I,I,I,fun _ sg _ _=>aE I (jr I)⟩,
   ⟨⟨[⟨51,fun _=>tV (cK l ((i:Int).toNat*9+0)),some 31⟩],_,0,0,I,⟨(fun _=>I),J⟩,I,I,I,I,I,eY (fun sg=>aE I (qa (.tail _ (.tail _ (.head _))) q_e1 (M I)))⟩,
   ⟨⟨[⟨52,fun _=>tV (cK l ((i:Int).toNat*9+0)),some 32⟩],_,0,0,I,⟨(fun _=>I),J⟩,I,I,I,I,I,eY (fun sg=>aE I (cM (o:=(i:Int).toNat*9+0) (n:=(i:Int).toNat*9+8) tB I (.tail _ (.tail _ (.head _))) q_e1 (M I) I))⟩,
   ⟨⟨[⟨53,fun _=>tV (cK l ((i:Int).toNat*9+8)),some 33⟩],_,0,0,I,⟨(fun _=>I),J⟩,I,I,I,I,I,eY (fun sg=>aE I (dd (r:=cz) (i:=(i:Int)) (foff:=8) nR I I qk I (.tail _ (.tail _ (.head _))) q_e1 (M I)))⟩,
   ⟨⟨[⟨54,fun _=>K rS e1.Name,some 34⟩],_,0,2,I,⟨(fun _=>I),J⟩,I,I,I,I,I,fun _ sg _ _=>aE I (vG hY (M I))⟩,
   ⟨⟨[⟨55,fun _=>K Q (e1.Name.length:Int),some 35⟩],_,0,2,I,⟨(fun _=>I),J⟩,I,I,I,I,I,fun _ sg _ _=>aE I (lN (M I) hI)⟩,
   ⟨⟨[⟨50,fun _=>K rS e1.Name,some 30⟩,⟨56,fun _=>K Q (min (e1.Name.length:Int) (40:Int)),some 36⟩],_,0,2,I,⟨(fun _=>I),(fun _=>I),J⟩,I,I,I,I,I,fun _ sg _ _=>aE I (zM hY (M I) (M I) q_y2)⟩,
   ⟨⟨[⟨20,fun _=>tV (cK l ((i:Int).toNat*9+0)),some 0⟩],_,0,0,I,⟨(fun _=>I),J⟩,I,I,I,I,I,eY (fun sg=>aE I (qa (.tail _ (.tail _ (.head _))) q_e1 (M I)))⟩,
   ⟨⟨[⟨58,fun _=>tV (cK l ((i:Int).toNat*9+0)),some 38⟩],_,0,0,I,⟨(fun _=>I),J⟩,I,I,I,I,I,eY (fun sg=>aE I (cM (o:=(i:Int).toNat*9+0) (n:=(i:Int).toNat*9+3) rC I (.tail _ (.tail _ (.head _))) q_e1 (M I) I))⟩,
   ⟨⟨[⟨59,fun _=>tV (cK l ((i:Int).toNat*9+3)),some 39⟩],_,0,0,I,⟨(fun _=>I),J⟩,I,I,I,I,I,eY (fun sg=>aE I (cM (o:=(i:Int).toNat*9+3) (n:=(i:Int).toNat*9+6) vO I (.tail _ (.tail _ (.head _))) q_e1 (M I) I))⟩,
   ⟨⟨[⟨60,fun _=>tV (cK l ((i:Int).toNat*9+6)),some 40⟩,⟨35,fun _=>K rS y,some 15⟩],_,I,⟨(fun _=>I),(fun _=>I),J⟩,I,I,I,fun sg=>bJ I (EffOK.fr2 (xw (r:=cz) (i:=(i:Int)) (foff:=6) nR I (kq nK Mo Cm) I q_e1 (so q_st) (M I) (M I)))⟩,
   ⟨⟨[⟨21,fun _=>tV (cK l ((i:Int).toNat*9+0)),some 1⟩],_,1,1,I,⟨(fun _=>I),J⟩,I,I,I,I,I,eY (fun sg=>aE I (qa (.head _) q_e2 (M I)))⟩,
   ⟨⟨[⟨61,fun _=>tV (cK l ((i:Int).toNat*9+0)),some 42⟩],_,1,1,I,⟨(fun _=>I),J⟩,I,I,I,I,I,eY (fun sg=>aE I (cM (o:=(i:Int).toNat*9+0) (n:=(i:Int).toNat*9+7) vM I (.head _) q_e2 (M I) I))⟩,
   ⟨⟨[⟨62,fun _=>tV (cK l ((i:Int).toNat*9+7)),some 43⟩,⟨46,fun _=>K rS y1,some 26⟩],_,I,⟨(fun _=>I),(fun _=>I),J⟩,I,I,I,fun sg=>bJ I (xw (r:=cz) (i:=(i:Int)) (foff:=7) nR I Mn I q_e2 (so q_st1) (M I) (M I))⟩,
   J⟩⟩⟩⟩⟩⟩⟩⟩⟩⟩⟩⟩⟩⟩⟩⟩⟩⟩⟩⟩⟩⟩⟩⟩⟩⟩⟩⟩⟩⟩⟩⟩⟩⟩⟩⟩⟩⟩⟩⟩⟩⟩⟩⟩⟩ (fun sg=>?_)
  refine(show RG _ _ _ _ [_,_,_] _ from ?_);refine lw (O' :=[fq cz 162 l c st1,bx bt 52 b ox,bx jN 52 b1 (lz out (Y l c st1.length))]) (by first|(rw [fV (so q_st1),fV (so q_st)];done)|(rw [fV (so q_st1),fV (so q_st)];exact I)|exact I)<|cL h fun e3 q_e3 h=>af (qa (.head _) q_e3 (M I))<|af (cM (o:=(i:Int).toNat*9+0) (n:=(i:Int).toNat*9+8) tB I (.head _) q_e3 (M I) I)<|cL h fun st2 q_st2 h=>oX nR I Ey I q_e3 (so q_st2) (M I) (M I)<|lw (O' :=[fq cz 162 l c st2,bx bt 52 b ox,bx jN 52 b1 (lz out (Y l c st2.length))]) (by first|(rw [fV (so q_st2)];done)|(rw [fV (so q_st2)];exact I)|exact I)<|bR<|dQ D hN I<|iO<|iO ?_;exact bf (aO (ih (i+1) ({out with Nodes:=st2}:cy) ⟨dJ D,h⟩) (bu I))

def Gt q{R}(h:vK q=some R):de aQ 11 [K bI q] (K bI R):=by
 refine ec Tryz.func11 I<|bl<|BJ (M I) I fun b=>aV sC uz I fun b1=>bX<|aN<|cL h fun r q_r h=>cL h fun r1 q_r1 h=>?_
 refine fm 7 [tc (tV (ak b 0)),tc (hM (bb) q.Selects),([2],fun s=>tV (Y ((s.getD 0 nQ).h 0).1 ((s.getD 0 nQ).h 0).2 r.length)),tc (tV (ak b 1)),tc (hM (jg) q.Keys),tc (hM (jg) r1),tc (tV (ak b 0))] [false,false,true,false,false,false,false] [fun _=>[bx bI 31 b1 ya,bx bI 31 b q],fun sg=>[fq bb 55 ((sg 2).h 0).1 ((sg 2).h 0).2 r,bx bI 31 b1 ya,bx bI 31 b q]] I mixed I I I I I
  ⟨⟨[⟨1,fun _=>tV (ak b 0),none⟩],_,0,0,I,⟨(fun _=>I),J⟩,I,I,I,I,I,fun _ sg _ _=>aE I (oy 0 u9 I I I)⟩,
  ⟨⟨[⟨9,fun _=>tV (ak b 0),some 0⟩],_,0,0,I,⟨(fun _=>I),J⟩,I,I,I,I,I,eY (fun sg=>aE I (bz Hb I I qO (.tail _ (.head _)) (M I)))⟩,
  ⟨⟨[⟨10,fun _=>K (eF bb) q.Selects,some 1⟩],_,I,⟨(fun _=>I),J⟩,I,I,I,fun sg=>bJ I (Ae (xs:=[.tmp 10,.const (.int .i64 (4))]) (ts:=[K (eF bb) q.Selects,K Q (4:Int)]) X2 (Ra _ _ q_r) ⟨(M I),hI,J⟩)⟩,
  ⟨⟨[⟨1,fun _=>tV (ak b 0),none⟩],_,0,1,I,⟨(fun _=>I),J⟩,I,I,I,I,I,fun _ sg _ _=>aE I (oy 1 xq I I I)⟩,
  ⟨⟨[⟨12,fun _=>tV (ak b 1),some 3⟩],_,0,1,I,⟨(fun _=>I),J⟩,I,I,I,I,I,qx (fun sg=>aE I (bz Ha I I oP (.tail _ (.head _)) (M I))) (eY (fun sg=>aE I (bz Ha I I oP (.tail _ (.tail _ (.head _))) (M I))))⟩,
  ⟨⟨[⟨13,fun _=>K (eF jg) q.Keys,some 4⟩],_,1,1,I,⟨(fun _=>I),J⟩,I,I,I,I,I,fun _ sg _ _=>aE I (bN X1 (Uh _ _ q_r1) ⟨(M I),hI,J⟩)⟩,
  ⟨⟨[⟨1,fun _=>tV (ak b 0),none⟩],_,1,1,I,⟨(fun _=>I),J⟩,I,I,I,I,I,fun _ sg _ _=>aE I (oy 0 u9 I I I)⟩,
  J⟩⟩⟩⟩⟩⟩⟩ (fun sg=>?_)
 refine(show RG _ _ _ _ [_,_,_] _ from ?_);refine jR<|kc Hb I (wU q _) I (M I) (Qd (M I))<|bF 1 xq I<|cn Ha FK I<|bX<|bv<|bF 0 u9 I<|af (iF Hb yE (.head _) I (M I))<|af (fW wK (.tail _ (.head _)) (M I))<|af (bL hI)<|bX<|aq<|lm (.tail _ (.head _)) fun hN=>bO<|gZ<|gZ<|lE ?_;refine aO (jc (aA:=fun ls i q1=>(r.drop i=ls)/\jj ls i q1=some R) (Of:=fun _ i q1=>[bx bI 31 b1 ya,bx gT 31 b (jB q1 (Y ((sg 2).h 0).1 ((sg 2).h 0).2 q1.Selects.length)),fq bb 55 ((sg 2).h 0).1 ((sg 2).h 0).2 q1.Selects]) (Gf:=fun _ i q1=>[(1,tV (ak b 0)),(2,tV (ak b1 0)),(18,tV (Y ((sg 2).h 0).1 ((sg 2).h 0).2 r.length)),(19,kO r),(20,aW (i:Int))]) (fun i q1 h=>?_) (fun e tl ih i q1 h=>?_) r 0 ({({q with Keys:=r1}:bD)with Selects:=r}:bD) ⟨I,h⟩) (bu I)
 ·obtain⟨D,h⟩:=h
  refine ea D I<|aJ<|bl<|jR<|oZ<|af (qH (q:=bI) (y:=q1) sC I I I I (.tail _ (.tail _ (.head _))) (fun _ _ _ ho h=>Bn (rn ho (.head _)) h) (M I))<|dx<|cn sC al I<|fR<|dm 2 I ?_;exact aP<|aP<|so h▸q9 I sC I I I
 ·obtain⟨D,h⟩:=h
  refine d9 D I<|aN<|aq<|aI I<|cL h fun e1 q_e1 h=>af (o9 wK sB (.tail _ (.tail _ (.head _))) (M I) (M I) q_e1 (Gy D))<|cL h fun e2 q_e2 h=>af (dd (r:=bb) (i:=(i:Int)) (foff:=0) sB I I cr I (.tail _ (.tail _ (.head _))) q_e2 (M I))<|cu false dC 88<|cu false eZ 86<|aV (r:=df) (x:=fS (⟨false,false,[],(⟨[],[]⟩:dj),[],ox,ox,[]⟩:ay) (Y none 0 (([]:List eG).length)) (Y none 0 (([]:List lT).length))) sB DQ I fun b2=>j3 I<|kc (r' :=bb) (x' :=e2) sB I (gS I) I (M I) (M I) ?_;refine(show RG _ _ _ _ [_,_,_,_,_,_] _ from ?_);refine dx<|rQ<|dx<|rQ<|bX<|aN<|cL h fun r2 q_r2 h=>cL h fun r3 q_r3 h=>cL h fun r4 q_r4 h=>?_
  refine fm 10 [tc (tV (ak b2 2)),tc (hM (dC) e2.Items),([2],fun s=>tV (Y ((s.getD 0 nQ).h 0).1 ((s.getD 0 nQ).h 0).2 r2.length)),tc (tV (ak b2 5)),tc (hM (eZ) e2.Joins),([5],fun s=>tV (Y ((s.getD 0 nQ).h 0).1 ((s.getD 0 nQ).h 0).2 r3.length)),tc (tV (ak b2 8)),tc (hM (eH) e2.Group),tc (hM (eH) r4),tc (tV (ak b2 2))] [false,false,true,false,false,true,false,false,false,false] [fun _=>[bx bb 55 b2 e2,bx bI 31 b1 ya,bx gT 31 b (jB q1 (Y ((sg 2).h 0).1 ((sg 2).h 0).2 q1.Selects.length)),fq bb 55 ((sg 2).h 0).1 ((sg 2).h 0).2 q1.Selects],fun sg1=>[fq dC 88 ((sg1 2).h 0).1 ((sg1 2).h 0).2 r2,bx bb 55 b2 e2,bx bI 31 b1 ya,bx gT 31 b (jB q1 (Y ((sg 2).h 0).1 ((sg 2).h 0).2 q1.Selects.length)),fq bb 55 ((sg 2).h 0).1 ((sg 2).h 0).2 q1.Selects],fun sg1=>[fq eZ 86 ((sg1 5).h 0).1 ((sg1 5).h 0).2 r3,fq dC 88 ((sg1 2).h 0).1 ((sg1 2).h 0).2 r2,bx bb 55 b2 e2,bx bI 31 b1 ya,bx gT 31 b (jB q1 (Y ((sg 2).h 0).1 ((sg 2).h 0).2 q1.Selects.length)),fq bb 55 ((sg 2).h 0).1 ((sg 2).h 0).2 q1.Selects]] I mixed I I I I I
   ⟨⟨[⟨4,fun _=>tV (ak b2 0),none⟩],_,0,0,I,⟨(fun _=>I),J⟩,I,I,I,I,I,fun _ sg1 _ _=>aE I (oy 2 sj I I I)⟩,
   ⟨⟨[⟨25,fun _=>tV (ak b2 2),some 0⟩],_,0,0,I,⟨(fun _=>I),J⟩,I,I,I,I,I,eY (fun sg1=>aE I (bz DY I I mp (.head _) (M I)))⟩,
   ⟨⟨[⟨26,fun _=>K (eF dC) e2.Items,some 1⟩],_,I,⟨(fun _=>I),J⟩,I,I,I,fun sg1=>bJ I (Ae (xs:=[.tmp 26,.const (.int .i64 (7))]) (ts:=[K (eF dC) e2.Items,K Q (7:Int)]) X0 (Q8 _ _ q_r2) ⟨(M I),hI,J⟩)⟩,
   ⟨⟨[⟨4,fun _=>tV (ak b2 0),none⟩],_,0,1,I,⟨(fun _=>I),J⟩,I,I,I,I,I,fun _ sg1 _ _=>aE I (oy 5 xo I I I)⟩,
   ⟨⟨[⟨28,fun _=>tV (ak b2 5),some 3⟩],_,0,1,I,⟨(fun _=>I),J⟩,I,I,I,I,I,qx (fun sg1=>aE I (bz G9 I I pw (.head _) (M I))) (eY (fun sg1=>aE I (bz G9 I I pw (.tail _ (.head _)) (M I))))⟩,
   ⟨⟨[⟨29,fun _=>K (eF eZ) e2.Joins,some 4⟩],_,I,⟨(fun _=>I),J⟩,I,I,I,fun sg1=>bJ I (Ae (xs:=[.tmp 29,.const (.int .i64 (3))]) (ts:=[K (eF eZ) e2.Joins,K Q (3:Int)]) XZ (Q7 _ _ q_r3) ⟨(M I),hI,J⟩)⟩,
   ⟨⟨[⟨4,fun _=>tV (ak b2 0),none⟩],_,0,2,I,⟨(fun _=>I),J⟩,I,I,I,I,I,fun _ sg1 _ _=>aE I (oy 8 Ab I I I)⟩,
   ⟨⟨[⟨31,fun _=>tV (ak b2 8),some 6⟩],_,0,2,I,⟨(fun _=>I),J⟩,I,I,I,I,I,qx (fun sg1=>aE I (bz G8 I I mo (.head _) (M I))) (qx (fun sg1=>aE I (bz G8 I I mo (.tail _ (.head _)) (M I))) (eY (fun sg1=>aE I (bz G8 I I mo (.tail _ (.tail _ (.head _))) (M I)))))⟩,
   ⟨⟨[⟨32,fun _=>K (eF eH) e2.Group,some 7⟩],_,2,2,I,⟨(fun _=>I),J⟩,I,I,I,I,I,fun _ sg1 _ _=>aE I (bN XY (Ug _ _ q_r4) ⟨(M I),hI,J⟩)⟩,
   ⟨⟨[⟨4,fun _=>tV (ak b2 0),none⟩],_,1,2,I,⟨(fun _=>I),J⟩,I,I,I,I,I,fun _ sg1 _ _=>aE I (oy 2 sj I I I)⟩,
   J⟩⟩⟩⟩⟩⟩⟩⟩⟩⟩ (fun sg1=>?_)
  refine(show RG _ _ _ _ [_,_,_,_,_,_] _ from ?_);refine jR<|kc DY I (we e2 _) I (M I) (Qd (M I))<|bF 5 xo I<|kc G9 I (sD e2 _ _) I (M I) (Qd (M I))<|bF 8 Ab I<|cn G8 Be I<|bX<|bv<|bF 2 sj I<|af (iF DY uc (.head _) I (M I))<|af (fW sU (.tail _ (.tail _ (.head _))) (M I))<|af (bL hI)<|bX<|aq<|lm (.tail _ (.tail _ (.head _))) fun hN1=>bO<|gZ<|lE<|lE<|v7 ?_;refine v7<|v7 ?_;refine aO (jc (aA:=fun ls1 i1 s=>(r2.drop i1=ls1)/\mJ (jj tl) i q1 ls1 i1 s=some R) (Of:=fun _ i1 s=>[bx bI 31 b1 ya,bx gT 31 b (jB q1 (Y ((sg 2).h 0).1 ((sg 2).h 0).2 q1.Selects.length)),fq bb 55 ((sg 2).h 0).1 ((sg 2).h 0).2 q1.Selects,bx df 55 b2 (fS s (Y ((sg1 2).h 0).1 ((sg1 2).h 0).2 s.Items.length) (Y ((sg1 5).h 0).1 ((sg1 5).h 0).2 s.Joins.length)),fq dC 88 ((sg1 2).h 0).1 ((sg1 2).h 0).2 s.Items,fq eZ 86 ((sg1 5).h 0).1 ((sg1 5).h 0).2 s.Joins]) (Gf:=fun _ i1 s=>[(1,tV (ak b 0)),(2,tV (ak b1 0)),(3,aW (i:Int)),(4,tV (ak b2 0)),(18,tV (Y ((sg 2).h 0).1 ((sg 2).h 0).2 r.length)),(19,kO r),(20,aW (i:Int)),(38,tV (Y ((sg1 2).h 0).1 ((sg1 2).h 0).2 r2.length)),(39,kO r2),(40,aW (i1:Int))]) (fun i1 s h=>?_) (fun e3 tl1 ih1 i1 s h=>?_) r2 0 ({({({e2 with Group:=r4}:ay)with Items:=r2}:ay)with Joins:=r3}:ay) ⟨I,h⟩) (bu I)
  ·obtain⟨hx1,h⟩:=h
   refine ea hx1 I<|aJ<|bv<|bF 5 xo I<|af (iF G9 ub (.tail _ (.tail _ (.tail _ (.head _)))) I (M I))<|af (fW zi (.tail _ (.tail _ (.tail _ (.tail _ (.tail _ (.head _)))))) (M I))<|af (bL hI)<|bX<|aq<|lm (.tail _ (.tail _ (.tail _ (.tail _ (.tail _ (.head _)))))) fun hN2=>?_;refine bO ?_;refine aO (jc (aA:=fun ls2 i2 s1=>(s.Joins.drop i2=ls2)/\mI (jj tl) i q1 ls2 i2 s1=some R) (Of:=fun _ i2 s1=>[bx bI 31 b1 ya,bx gT 31 b (jB q1 (Y ((sg 2).h 0).1 ((sg 2).h 0).2 q1.Selects.length)),fq bb 55 ((sg 2).h 0).1 ((sg 2).h 0).2 q1.Selects,bx df 55 b2 (fS s1 (Y ((sg1 2).h 0).1 ((sg1 2).h 0).2 s1.Items.length) (Y ((sg1 5).h 0).1 ((sg1 5).h 0).2 s1.Joins.length)),fq dC 88 ((sg1 2).h 0).1 ((sg1 2).h 0).2 s1.Items,fq eZ 86 ((sg1 5).h 0).1 ((sg1 5).h 0).2 s1.Joins]) (Gf:=fun _ i2 s1=>[(1,tV (ak b 0)),(2,tV (ak b1 0)),(3,aW (i:Int)),(4,tV (ak b2 0)),(18,tV (Y ((sg 2).h 0).1 ((sg 2).h 0).2 r.length)),(19,kO r),(20,aW (i:Int)),(55,tV (Y ((sg1 5).h 0).1 ((sg1 5).h 0).2 s.Joins.length)),(56,kO s.Joins),(57,aW (i2:Int))]) (fun i2 s1 h=>?_) (fun e4 tl2 ih2 i2 s1 h=>?_) s.Joins 0 s ⟨I,h⟩) (bu I)
   ·obtain⟨hx2,h⟩:=h
    refine ea hx2 I<|aJ<|aN<|cL h fun r5 q_r5 h=>cL h fun r6 q_r6 h=>?_
    refine vr 7 (ts:=[tV (ak b2 6),K bt s1.Where,K bt r5,tV (ak b2 7),K bt s1.Having,K bt r6,tV (ak b2 6)]) mixed I I I
     ⟨AA 4 I I (oy 6 C9 I I I),
     ⟨ly 71 0 I I (bz (r:=df) (x:=fS s1 (Y ((sg1 2).h 0).1 ((sg1 2).h 0).2 s1.Items.length) (Y ((sg1 5).h 0).1 ((sg1 5).h 0).2 s1.Joins.length)) lr I I Bl (.tail _ (.tail _ (.tail _ (.head _)))) (M I)),
     ⟨ly 72 1 I I (bN R0 (Gq _ q_r5) ⟨(M I),J⟩),
     ⟨AA 4 I I (oy 7 Ac I I I),
     ⟨ly 74 3 I I (bz (r:=df) (x:=fS s1 (Y ((sg1 2).h 0).1 ((sg1 2).h 0).2 s1.Items.length) (Y ((sg1 5).h 0).1 ((sg1 5).h 0).2 s1.Joins.length)) lr I I Bk (.tail _ (.tail _ (.tail _ (.head _)))) (M I)),
     ⟨ly 75 4 I I (bN R0 (Gq _ q_r6) ⟨(M I),J⟩),
     ⟨AA 4 I I (oy 6 C9 I I I),
     J⟩⟩⟩⟩⟩⟩⟩ ?_
    refine oY<|cn lr Bg I<|bF 7 Ac I<|cn lr Bf I<|bX<|bd<|bF 0 u9 I<|af (iF Hb yE (.tail _ (.tail _ (.head _))) I (M I))<|bo I<|vX<|oZ<|An<|oZ<|af (qH (q:=bb) (y:=({({({({s1 with Where:=r5}:ay)with Having:=r6}:ay)with Items:=s1.Items}:ay)with Joins:=s1.Joins}:ay)) sB I I I I (.tail _ (.tail _ (.head _))) (fun _ _ _ ho h=>xx (rn ho (.tail _ (.head _))) (rn ho (.head _)) h) (M I))<|af (bU wK sB (.tail _ (.tail _ (.tail _ (.tail _ (.tail _ (.head _)))))) (M I) (M I) q_e2)<|An<|cL h fun st q_st h=>oX sB I al I q_e2 (so q_st) (M I) (M I)<|iM (fV (so q_st)) 80 I<|lw (O' :=[fq bb 55 ((sg 2).h 0).1 ((sg 2).h 0).2 st,Z eZ 86 ((sg1 5).h 0).1 ((sg1 5).h 0).2 s1.Joins,Z dC 88 ((sg1 2).h 0).1 ((sg1 2).h 0).2 s1.Items,bx df 55 b2 (fS ({({s1 with Where:=r5}:ay)with Having:=r6}:ay) (Y ((sg1 2).h 0).1 ((sg1 2).h 0).2 s1.Items.length) (Y ((sg1 5).h 0).1 ((sg1 5).h 0).2 s1.Joins.length)),bx bI 31 b1 ya,bx gT 31 b (jB q1 (Y ((sg 2).h 0).1 ((sg 2).h 0).2 st.length))]) (by first|(rw [fV (so q_st)];done)|(rw [fV (so q_st)];exact I)|exact I)<|bR<|ca<|aJ ?_;refine bd<|af (WR (Pt D hN) I)<|bo I<|bR<|d5<|aP<|d5<|aP<|d5<|aP<|iO<|iO ?_;exact bf (aO (ih (i+1) ({q1 with Selects:=st}:bD) ⟨dJ D,h⟩) (bu I))
   ·obtain⟨hx2,h⟩:=h
    refine d9 hx2 I<|aN<|aq<|aI I<|cL h fun e5 q_e5 h=>af (o9 zi yb (.tail _ (.tail _ (.tail _ (.tail _ (.tail _ (.head _)))))) (M I) (M I) q_e5 (Gy hx2))<|cL h fun e6 q_e6 h=>af (dd (r:=eZ) (i:=(i2:Int)) (foff:=0) yb I I cr I (.tail _ (.tail _ (.tail _ (.tail _ (.tail _ (.head _)))))) q_e6 (M I))<|aV yb Fw I fun b3=>j3 I<|cn yb al I<|aS 8 I<|bR ?_;refine aJ<|cL h fun r7 q_r7 h=>?_
    refine vr 8 (ts:=[tV (ak b2 5),tV (Y ((sg1 5).h 0).1 ((sg1 5).h 0).2 s1.Joins.length),aW (i2:Int),aU bt e6.On,K bt e6.On,K bt r7,tV (cK ((sg1 5).h 0).1 ((i2:Int).toNat*4+0)),tV (cK ((sg1 5).h 0).1 ((i2:Int).toNat*4+3))]) mixed I I I
     ⟨AA 4 I I (oy 5 xo I I I),
     ⟨ly 62 0 I I (iF G9 ub (.tail _ (.tail _ (.tail _ (.head _)))) I (M I)),
     ⟨oz I I,
     ⟨AA 8 I I (wP Ge z6 I I),
     ⟨zp 3 lr I I,
     ⟨ly 66 4 I I (bN R0 (Gq _ q_r7) ⟨(M I),J⟩),
     ⟨nP 63 1 64 2 I I I (bU zi yb (.tail _ (.tail _ (.tail _ (.tail _ (.tail _ (.head _)))))) (M I) (M I) q_e6),
     ⟨ly 68 6 I I (cM (o:=(i2:Int).toNat*4+0) (n:=(i2:Int).toNat*4+3) Ge I (.tail _ (.tail _ (.tail _ (.tail _ (.tail _ (.head _)))))) q_e6 (M I) I),
     J⟩⟩⟩⟩⟩⟩⟩⟩ ?_
    refine An<|cL h fun st1 q_st1 h=>oX lr I Ms I q_e6 (so q_st1) (M I) (M I)<|iM (fV (so q_st1)) 63 I<|lw (O' :=[fq eZ 86 ((sg1 5).h 0).1 ((sg1 5).h 0).2 st1,bx bI 31 b1 ya,bx gT 31 b (jB q1 (Y ((sg 2).h 0).1 ((sg 2).h 0).2 q1.Selects.length)),fq bb 55 ((sg 2).h 0).1 ((sg 2).h 0).2 q1.Selects,bx df 55 b2 (fS s1 (Y ((sg1 2).h 0).1 ((sg1 2).h 0).2 s1.Items.length) (Y ((sg1 5).h 0).1 ((sg1 5).h 0).2 st1.length)),fq dC 88 ((sg1 2).h 0).1 ((sg1 2).h 0).2 s1.Items]) (by first|(rw [fV (so q_st1)];done)|(rw [fV (so q_st1)];exact I)|exact I)<|bR<|dQ hx2 hN2 I<|ew<|ew<|ew<|ew<|ew ?_;exact bf (aO (ih2 (i2+1) ({s1 with Joins:=st1}:ay) ⟨dJ hx2,h⟩) (bu I))
  ·obtain⟨hx1,h⟩:=h
   refine d9 hx1 I<|aN<|aq<|aI I<|cL h fun e7 q_e7 h=>af (o9 sU pY (.tail _ (.tail _ (.tail _ (.tail _ (.head _))))) (M I) (M I) q_e7 (Gy hx1))<|cL h fun e8 q_e8 h=>af (dd (r:=dC) (i:=(i1:Int)) (foff:=0) pY I I cr I (.tail _ (.tail _ (.tail _ (.tail _ (.head _))))) q_e8 (M I))<|aV pY vu I fun b4=>j3 I<|cn pY al I<|aS 6 I<|bR ?_;refine aJ<|cL h fun r8 q_r8 h=>?_
   refine vr 8 (ts:=[tV (ak b2 2),tV (Y ((sg1 2).h 0).1 ((sg1 2).h 0).2 s.Items.length),aW (i1:Int),aU bt e8.Tree,K bt e8.Tree,K bt r8,tV (cK ((sg1 2).h 0).1 ((i1:Int).toNat*2+0)),tV (cK ((sg1 2).h 0).1 ((i1:Int).toNat*2+0))]) mixed I I I
    ⟨AA 4 I I (oy 2 sj I I I),
    ⟨ly 45 0 I I (iF DY uc (.tail _ (.tail _ (.tail _ (.head _)))) I (M I)),
    ⟨oz I I,
    ⟨AA 6 I I (wP u6 oQ I I),
    ⟨zp 3 lr I I,
    ⟨ly 49 4 I I (bN R0 (Gq _ q_r8) ⟨(M I),J⟩),
    ⟨nP 46 1 47 2 I I I (bU sU pY (.tail _ (.tail _ (.tail _ (.tail _ (.head _))))) (M I) (M I) q_e8),
    ⟨ly 51 6 I I (cM (o:=(i1:Int).toNat*2+0) (n:=(i1:Int).toNat*2+0) u6 I (.tail _ (.tail _ (.tail _ (.tail _ (.head _))))) q_e8 (M I) I),
    J⟩⟩⟩⟩⟩⟩⟩⟩ ?_
   refine vX<|cL h fun st2 q_st2 h=>oX lr I EB I q_e8 (so q_st2) (M I) (M I)<|iM (fV (so q_st2)) 46 I<|lw (O' :=[fq dC 88 ((sg1 2).h 0).1 ((sg1 2).h 0).2 st2,bx bI 31 b1 ya,bx gT 31 b (jB q1 (Y ((sg 2).h 0).1 ((sg 2).h 0).2 q1.Selects.length)),fq bb 55 ((sg 2).h 0).1 ((sg 2).h 0).2 q1.Selects,bx df 55 b2 (fS s (Y ((sg1 2).h 0).1 ((sg1 2).h 0).2 st2.length) (Y ((sg1 5).h 0).1 ((sg1 5).h 0).2 s.Joins.length)),fq eZ 86 ((sg1 5).h 0).1 ((sg1 5).h 0).2 s.Joins]) (by first|(rw [fV (so q_st2)];done)|(rw [fV (so q_st2)];exact I)|exact I)<|bR<|dQ hx1 hN1 I<|ew<|d5<|ew<|ew<|ew<|ew ?_;exact bf (aO (ih1 (i1+1) ({s with Items:=st2}:ay) ⟨dJ hx1,h⟩) (bu I))

end Go.Proofs.YthbdkceckjihgaaGreatDoor

