/- de of this claim: P10. -/
import Derived.Test.YtigldkegamffhaaGreatDoorBfT
import Derived.Test.YtigldkegamffhaaGreatDoorBfP9
set_option linter.all false
namespace Go.Proofs.YtigldkegamffhaaGreatDoor
open Go
set_option maxRecDepth 100000

def Xd l most{R}(h:o9 l most=some R):lH aY 12 [jo (di) l,br most] false di 85 R:=by
 exact lH.of Tryz.func12 I I I fun w0 S0=>bA<|cM false di 85<|Q (cR F1)<|co<|bA<|jw (r:=di) (ys:=([]:List bR)) (xs:=[]) yo ut I I I I I trivial I fun l1 c=>bC I<|bC I<|dr yo I<|bC I<|Q (lz (M I) (M I))<|cV h fun y q_y h=>Q (m8 yo ut I (M I) (M I) q_y)<|cV h fun x q_x h=>gM ut I I I I yo I I (M I) (M I) q_x fun l2 c1=>bF I<|so h▸qW I I
def W0 l most{R}(h:lC l most=some R):lH aY 13 [jo (cX) l,br most] false cX 88 R:=by
 exact lH.of Tryz.func13 I I I fun w0 S0=>bA<|cM false cX 88<|Q (cR F1)<|co<|bA<|jw (r:=cX) (ys:=([]:List bJ)) (xs:=[]) vY sS I I I I I trivial I fun l1 c=>bC I<|bC I<|dr vY I<|bC I<|Q (lz (M I) (M I))<|cV h fun y q_y h=>Q (m8 vY sS I (M I) (M I) q_y)<|cV h fun x q_x h=>gM sS I I I I vY I I (M I) (M I) q_x fun l2 c1=>bF I<|so h▸qW I I
def ZU l most{R}(h:lC l most=some R):dZ aY 13 [jo (cX) l,br most] (jo (cX) R):=(W0 _ _ h).spec

def WX l most{R}(h:si l most=some R):lH aY 14 [yl l,br most] false aU 3 R:=by
 exact lH.of Tryz.func14 I I I fun w0 S0=>bA<|cM false aU 3<|Q (cR F1)<|co<|bA<|jw (r:=aU) (ys:=Fs) (xs:=[]) jL er I I I I I trivial I fun l1 c=>bC I<|bC I<|dr jL I<|bC I<|Q (lz (M I) (M I))<|cV h fun y q_y h=>Q (m8 jL er I (M I) (M I) q_y)<|cV h fun x q_x h=>gM er I I I I jL I I (M I) (M I) q_x fun l2 c1=>bF I<|so h▸qW I I
def ZS l most{R}(h:si l most=some R):dZ aY 14 [yl l,br most] (yl R):=(WX _ _ h).spec

def Re c{R}(h:vj c=some R):dZ aY 5 [K cn c] (K cn R):=by
 refine fc Tryz.func5 I<|bA<|eA I<|ba uu rp I fun b=>co<|bA<|cU vS nf Gq I<|Qi h adF (Xd _ _) (gm I) fun r h l c1=>Q (cQ (y:=kE (⟨r⟩:aw) (Y l c1 r.length)) uu aa2 Cj (⟨_,_,_,_,_,I,Gw,I,(Nz (M I)),I⟩))<|cM false di 85<|ba (r:=jd) (x:=kE J2 (Y none 0 (([]:List bR).length))) uu Cj I fun b1=>fv (r' :=jd) uu I (fB I) I (M I) (M I)<|cY<|ny<|co<|bN ?_;refine ca 0 vS I<|Q (fg Gq qJ (.head _) I (M I))<|Q (fa yo (.tail _ (.head _)) (M I))<|Q (bG hI)<|co<|am<|fQ (.tail _ (.head _)) fun hN=>cc<|gx<|gx<|jt ?_;refine aP (gY (tV:=fun ls i out=>(r.drop i=ls)/\mB ls i out=some R) (Of:=fun _ i out=>[bx cn 24 b J2,bx jd 24 b1 (kE out (Y l c1 out.Tables.length)),dv di 85 l c1 out.Tables]) (Gf:=fun _ i out=>[(2,Z (al b 0)),(3,Z (al b1 0)),(11,uZ l c1 r),(12,mY r),(13,br (i:Int))]) (fun i out h=>?_) (fun e tl ih i out h=>?_) r 0 ({(⟨r⟩:aw)with Tables:=r}:aw) ⟨I,h⟩) (bO I)
 ·obtain⟨D,h⟩:=h
  refine fH D I<|aC<|bA<|gw<|jr<|Q (oa (q:=cn) (y:=out) uu I I I I (.tail _ (.tail _ (.head _))) (fun _ _ _ ho h=>Db (ly ho (.head _)) h) (M I))<|cY<|cG uu ak I<|fh<|dV 2 I ?_;exact aZ<|aZ<|so h▸sN I uu I I I
 ·obtain⟨D,h⟩:=h
  refine fG D I<|aE<|am<|aQ I<|cV h fun e1 q_e1 h=>Q (iw yo ut (.tail _ (.tail _ (.head _))) (M I) (M I) q_e1 (nl D))<|cV h fun e2 q_e2 h=>Q (cb (r:=di) (i:=(i:Int)) (foff:=0) ut I I cg I (.tail _ (.tail _ (.head _))) q_e2 (M I))<|ba ut Ck I fun b2=>lI I<|cG ut ak I<|a8 5 I<|bu ?_;refine aC<|cV h fun r1 q_r1 h=>cV h fun r2 q_r2 h=>cV h fun st q_st h=>?_
  refine fY 15 [tc (Z (al b1 0)),tc (uZ l c1 out.Tables),tc (br (i:Int)),tc (Z (al b1 0)),tc (uZ l c1 out.Tables),tc (br (i:Int)),tc (bt (fJ cX) e2.Columns),tc (jo (cX) e2.Columns),tc (jo (cX) r1),tc (bt zzr e2.Keys),tc (yl e2.Keys),tc (yl r2),tc (Z (bh l ((i:Int).toNat*3+0))),tc (Z (bh l ((i:Int).toNat*3+1))),tc (tw)] [false,false,false,false,false,false,false,false,false,false,false,false,false,false,true] [fun _=>[bx cn 24 b J2,bx jd 24 b1 (kE out (Y l c1 out.Tables.length)),dv di 85 l c1 out.Tables],fun sg=>[dv di 85 l c1 st,bx cn 24 b J2,bx jd 24 b1 (kE out (Y l c1 out.Tables.length))]] I mixed I I I I I
   ⟨⟨[⟨3,fun _=>Z (al b1 0),none⟩],_,0,0,I,⟨(fun _=>I),J⟩,I,I,I,I,I,fun _ sg _ _=>aK I (qX 0 vS I I I)⟩,
   ⟨⟨[⟨18,fun _=>Z (al b1 0),some 0⟩],_,0,0,I,⟨(fun _=>I),J⟩,I,I,I,I,I,dX (fun sg=>aK I (fg Gq qJ (.tail _ (.head _)) I (M I)))⟩,
   ⟨⟨[⟨4,fun _=>K aU (i:Int),none⟩],_,0,0,I,⟨(fun _=>I),J⟩,I,I,I,I,I,fun _ sg _ _=>aK I (jM I)⟩,
   ⟨⟨[⟨3,fun _=>Z (al b1 0),none⟩],_,0,1,I,⟨(fun _=>I),J⟩,I,I,I,I,I,fun _ sg _ _=>aK I (qX 0 vS I I I)⟩,
   ⟨⟨[⟨21,fun _=>Z (al b1 0),some 3⟩],_,0,1,I,⟨(fun _=>I),J⟩,I,I,I,I,I,rq (fun sg=>aK I (fg Gq qJ (.tail _ (.head _)) I (M I))) (dX (fun sg=>aK I (fg Gq qJ (.tail _ (.tail _ (.head _))) I (M I))))⟩,
   ⟨⟨[⟨4,fun _=>K aU (i:Int),none⟩],_,0,1,I,⟨(fun _=>I),J⟩,I,I,I,I,I,fun _ sg _ _=>aK I (jM I)⟩,
   ⟨⟨[⟨5,fun _=>bt di e2,none⟩],_,0,0,I,⟨(fun _=>I),J⟩,I,I,I,I,I,fun _ sg _ _=>aK I (AC xh oh I I)⟩,
   ⟨⟨[⟨24,fun _=>bt (fJ cX) e2.Columns,some 6⟩],_,0,0,I,⟨(fun _=>I),J⟩,I,I,I,I,I,fun _ sg _ _=>aK I (wx Kd I I)⟩,
   ⟨⟨[⟨25,fun _=>K (fJ cX) e2.Columns,some 7⟩],_,0,0,I,⟨(fun _=>I),J⟩,I,I,I,I,I,fun _ sg _ _=>aK I (bH adE (ZU _ _ q_r1) ⟨(M I),hI,J⟩)⟩,
   ⟨⟨[⟨5,fun _=>bt di e2,none⟩],_,0,0,I,⟨(fun _=>I),J⟩,I,I,I,I,I,fun _ sg _ _=>aK I (AC KN BD I I)⟩,
   ⟨⟨[⟨27,fun _=>bt Fq e2.Keys,some 9⟩],_,0,0,I,⟨(fun _=>I),J⟩,I,I,I,I,I,fun _ sg _ _=>aK I (wx ky I I)⟩,
   ⟨⟨[⟨28,fun _=>K Fq e2.Keys,some 10⟩],_,0,0,I,⟨(fun _=>I),J⟩,I,I,I,I,I,fun _ sg _ _=>aK I (bH adD (ZS _ _ q_r2) ⟨(M I),hI,J⟩)⟩,
   ⟨⟨[⟨19,fun _=>Z (Y l c1 out.Tables.length),some 1⟩,⟨20,fun _=>K aU (i:Int),some 2⟩],_,0,0,I,⟨(fun _=>I),(fun _=>I),J⟩,I,I,I,I,I,dX (fun sg=>aK I (bo yo ut (.tail _ (.tail _ (.head _))) (M I) (M I) q_e2))⟩,
   ⟨⟨[⟨30,fun _=>Z (bh l ((i:Int).toNat*3+0)),some 12⟩],_,0,0,I,⟨(fun _=>I),J⟩,I,I,I,I,I,dX (fun sg=>aK I (aW (o:=(i:Int).toNat*3+0) (n:=(i:Int).toNat*3+1) xh I (.tail _ (.tail _ (.head _))) q_e2 (M I) I))⟩,
   ⟨⟨[⟨31,fun _=>Z (bh l ((i:Int).toNat*3+1)),some 13⟩,⟨26,fun _=>K (fJ cX) r1,some 8⟩],_,I,⟨(fun _=>I),(fun _=>I),J⟩,I,I,I,fun sg=>bL I (EffOK.fr2 (rK (r:=di) (i:=(i:Int)) (foff:=1) Kd I Bn I q_e2 (so q_st) (M I) (M I)))⟩,
   J⟩⟩⟩⟩⟩⟩⟩⟩⟩⟩⟩⟩⟩⟩⟩ (fun sg=>?_)
  refine(show RG _ _ _ _ [_,_,_] _ from ?_);refine jm (O' :=[dv di 85 l c1 st,bx cn 24 b J2,bx jd 24 b1 (kE out (Y l c1 st.length))]) (by first|(rw [dS (so q_st)];done)|(rw [dS (so q_st)];exact I)|exact I)<|cV h fun e3 q_e3 h=>Q (bo yo ut (.head _) (M I) (M I) q_e3 ((dS (so q_st)).symm))<|Q (aW (o:=(i:Int).toNat*3+0) (n:=(i:Int).toNat*3+2) KN I (.head _) q_e3 (M I) I)<|cV h fun st1 q_st1 h=>ir ky I N6 I q_e3 (so q_st1) (M I) (M I)<|jm (O' :=[dv di 85 l c1 st1,bx cn 24 b J2,bx jd 24 b1 (kE out (Y l c1 st1.length))]) (by first|(rw [dS (so q_st1)];done)|(rw [dS (so q_st1)];exact I)|exact I)<|bu<|eP D hN I<|fF<|fF ?_;exact bl (aP (ih (i+1) ({out with Tables:=st1}:aw) ⟨eg D,h⟩) (bO I))

def Rj l most{R}(h:od l most=some R):lH aY 15 [jo (aR) l,br most] false aR 53 R:=by
 exact lH.of Tryz.func15 I I I fun w0 S0=>bA<|cM false aR 53<|Q (cR F1)<|co<|bA<|jw (r:=aR) (ys:=([]:List ae)) (xs:=[]) u0 oF I I I I I trivial I fun l1 c=>bC I<|bC I<|dr u0 I<|bC I<|Q (lz (M I) (M I))<|cV h fun y q_y h=>Q (m8 u0 oF I (M I) (M I) q_y)<|cV h fun x q_x h=>gM oF I I I I u0 I I (M I) (M I) q_x fun l2 c1=>bF I<|so h▸qW I I
def WT l most{R}(h:nP l most=some R):lH aY 16 [jo (jG) l,br most] false jG 68 R:=by
 exact lH.of Tryz.func16 I I I fun w0 S0=>bA<|cM false jG 68<|Q (cR F1)<|co<|bA<|jw (r:=jG) (ys:=([]:List rQ)) (xs:=[]) yr Fy I I I I I trivial I fun l1 c=>bC I<|bC I<|dr yr I<|bC I<|Q (lz (M I) (M I))<|cV h fun y q_y h=>Q (m8 yr Fy I (M I) (M I) q_y)<|cV h fun x q_x h=>gM Fy I I I I yr I I (M I) (M I) q_x fun l2 c1=>bF I<|so h▸qW I I
def Vk l most{R}(h:nP l most=some R):dZ aY 16 [jo (jG) l,br most] (jo (jG) R):=(WT _ _ h).spec

def Ri l most{R}(h:pN l most=some R):lH aY 17 [jo (cv) l,br most] false cv 59 R:=by
 exact lH.of Tryz.func17 I I I fun w0 S0=>bA<|cM false cv 59<|Q (cR F1)<|co<|bA<|jw (r:=cv) (ys:=([]:List ev)) (xs:=[]) sQ oE I I I I I trivial I fun l1 c=>bC I<|bC I<|dr sQ I<|bC I<|Q (lz (M I) (M I))<|cV h fun y q_y h=>Q (m8 sQ oE I (M I) (M I) q_y)<|cV h fun x q_x h=>gM oE I I I I sQ I I (M I) (M I) q_x fun l2 c1=>bF I<|so h▸qW I I
def Rh l most{R}(h:pM l most=some R):lH aY 18 [jo (cz) l,br most] false cz 57 R:=by
 exact lH.of Tryz.func18 I I I fun w0 S0=>bA<|cM false cz 57<|Q (cR F1)<|co<|bA<|jw (r:=cz) (ys:=([]:List g9)) (xs:=[]) vH sU I I I I I trivial I fun l1 c=>bC I<|bC I<|dr vH I<|bC I<|Q (lz (M I) (M I))<|cV h fun y q_y h=>Q (m8 vH sU I (M I) (M I) q_y)<|cV h fun x q_x h=>gM sU I I I I vH I I (M I) (M I) q_x fun l2 c1=>bF I<|so h▸qW I I
def Rg l most{R}(h:pL l most=some R):lH aY 19 [jo (cK) l,br most] false cK 62 R:=by
 exact lH.of Tryz.func19 I I I fun w0 S0=>bA<|cM false cK 62<|Q (cR F1)<|co<|bA<|jw (r:=cK) (ys:=([]:List gk)) (xs:=[]) Cc yd I I I I I trivial I fun l1 c=>bC I<|bC I<|dr Cc I<|bC I<|Q (lz (M I) (M I))<|cV h fun y q_y h=>Q (m8 Cc yd I (M I) (M I) q_y)<|cV h fun x q_x h=>gM yd I I I I Cc I I (M I) (M I) q_x fun l2 c1=>bF I<|so h▸qW I I
def Rf l most{R}(h:pK l most=some R):lH aY 39 [jo (cd) l,br most] false cd 113 R:=by
 exact lH.of Tryz.func39 I I I fun w0 S0=>bA<|cM false cd 113<|Q (cR F1)<|co<|bA<|jw (r:=cd) (ys:=([]:List cx)) (xs:=[]) sP nL I I I I I trivial I fun l1 c=>bC I<|bC I<|dr sP I<|bC I<|Q (lz (M I) (M I))<|cV h fun y q_y h=>Q (m8 sP nL I (M I) (M I) q_y)<|cV h fun x q_x h=>gM nL I I I I sP I I (M I) (M I) q_x fun l2 c1=>bF I<|so h▸qW I I
def zh t{R}(h:lB t=some R):dZ aY 20 [K aX t] (K aX R):=by
 refine fc Tryz.func20 I<|bA<|eA I<|ba ic qj I fun b=>co<|bA<|cU nK lm ye I<|Qi h abG (Rf _ _) (gm I) fun r h l c=>Q (cQ (y:=fD (⟨r⟩:bT) (Y l c r.length)) ic Y4 wa (⟨_,_,_,_,_,I,E0,I,(Nz (M I)),I⟩))<|cM false cd 113<|ba (r:=eu) (x:=fD qd (Y none 0 (([]:List cx).length))) ic wa I fun b1=>fv (r' :=eu) ic I (fB I) I (M I) (M I)<|cY<|ny<|co<|bN ?_;refine ca 0 nK I<|Q (fg ye p4 (.head _) I (M I))<|Q (fa sP (.tail _ (.head _)) (M I))<|Q (bG hI)<|co<|am<|fQ (.tail _ (.head _)) fun hN=>cc<|gx<|gx<|jt ?_;refine aP (gY (tV:=fun ls i out=>(r.drop i=ls)/\kW ls i out=some R) (Of:=fun _ i out=>[bx aX 50 b qd,bx eu 50 b1 (fD out (Y l c out.Nodes.length)),dv cd 113 l c out.Nodes]) (Gf:=fun _ i out=>[(2,Z (al b 0)),(3,Z (al b1 0)),(12,mY r),(13,br (i:Int))]) (fun i out h=>?_) (fun e tl ih i out h=>?_) r 0 ({(⟨r⟩:bT)with Nodes:=r}:bT) ⟨I,h⟩) (bO I)
 ·obtain⟨D,h⟩:=h
  refine fH D I<|aC<|bA<|gw<|jr<|Q (oa (q:=aX) (y:=out) ic I I I I (.tail _ (.tail _ (.head _))) (fun _ _ _ ho h=>zq (ly ho (.head _)) h) (M I))<|cY<|cG ic ak I<|fh<|dV 2 I ?_;exact aZ<|aZ<|so h▸sN I ic I I I
 ·obtain⟨D,h⟩:=h
  refine fG D I<|aE<|am<|aQ I<|bP I<|bA<|ca 0 nK I<|Q (fg ye p4 (.tail _ (.head _)) I (M I))<|bC I<|cV h fun e1 q_e1 h=>?_;refine Q (bo sP nL (.tail _ (.tail _ (.head _))) (M I) (M I) q_e1)<|bP I<|cV h fun y q_y h=>cV h fun y1 q_y1 h=>cV h fun y2 q_y2 h=>cV h fun st q_st h=>cV h fun e2 q_e2 h=>cV h fun st1 q_st1 h=>?_
  refine fY 45 [tc (Z (bh l ((i:Int).toNat*9+0))),tc (Z (bh l ((i:Int).toNat*9+0))),tc (Z (bh l ((i:Int).toNat*9+0))),tc (Z (bh l ((i:Int).toNat*9+0))),tc (Z (bh l ((i:Int).toNat*9+0))),tc (Z (bh l ((i:Int).toNat*9+3))),tc (Z (bh l ((i:Int).toNat*9+6))),tc (K rS e1.Value.S),tc (Z (bh l ((i:Int).toNat*9+0))),tc (Z (bh l ((i:Int).toNat*9+0))),tc (Z (bh l ((i:Int).toNat*9+3))),tc (Z (bh l ((i:Int).toNat*9+6))),tc (K rS e1.Value.S),tc (mY e1.Value.S),tc (br (min (e1.Value.S.length:Int) (60:Int))),tc (K rS y),tc (Z (bh l ((i:Int).toNat*9+0))),tc (Z (bh l ((i:Int).toNat*9+0))),tc (Z (bh l ((i:Int).toNat*9+7))),tc (K rS e1.Table),tc (Z (bh l ((i:Int).toNat*9+0))),tc (Z (bh l ((i:Int).toNat*9+0))),tc (Z (bh l ((i:Int).toNat*9+7))),tc (K rS e1.Table),tc (mY e1.Table),tc (br (min (e1.Table.length:Int) (40:Int))),tc (K rS y1),tc (Z (bh l ((i:Int).toNat*9+0))),tc (Z (bh l ((i:Int).toNat*9+0))),tc (Z (bh l ((i:Int).toNat*9+8))),tc (K rS e1.Name),tc (Z (bh l ((i:Int).toNat*9+0))),tc (Z (bh l ((i:Int).toNat*9+0))),tc (Z (bh l ((i:Int).toNat*9+8))),tc (K rS e1.Name),tc (mY e1.Name),tc (br (min (e1.Name.length:Int) (40:Int))),tc (K rS y2),tc (Z (bh l ((i:Int).toNat*9+0))),tc (Z (bh l ((i:Int).toNat*9+3))),tc (Z (bh l ((i:Int).toNat*9+6))),tc (tw),tc (Z (bh l ((i:Int).toNat*9+0))),tc (Z (bh l ((i:Int).toNat*9+7))),tc (tw)] [false,false,false,false,false,false,false,false,false,false,false,false,false,false,false,false,false,false,false,false,false,false,false,false,false,false,false,false,false,false,false,false,false,false,false,false,false,false,false,false,false,true,false,false,true] [fun _=>[bx aX 50 b qd,bx eu 50 b1 (fD out (Y l c out.Nodes.length)),dv cd 113 l c out.Nodes],fun sg=>[dv cd 113 l c st,bx aX 50 b qd,bx eu 50 b1 (fD out (Y l c out.Nodes.length))],fun sg=>[dv cd 113 l c st1,bx aX 50 b qd,bx eu 50 b1 (fD out (Y l c out.Nodes.length))]] I mixed I I I I I
   ⟨⟨[⟨5,fun _=>Z (bh l ((i:Int).toNat*9+0)),none⟩],_,0,0,I,⟨(fun _=>I),J⟩,I,I,I,I,I,fun _ sg _ _=>aK I (jM I)⟩,
   ⟨⟨[⟨5,fun _=>Z (bh l ((i:Int).toNat*9+0)),none⟩],_,0,1,I,⟨(fun _=>I),J⟩,I,I,I,I,I,fun _ sg _ _=>aK I (jM I)⟩,
   ⟨⟨[⟨5,fun _=>Z (bh l ((i:Int).toNat*9+0)),none⟩],_,0,2,I,⟨(fun _=>I),J⟩,I,I,I,I,I,fun _ sg _ _=>aK I (jM I)⟩,
   ⟨⟨[⟨5,fun _=>Z (bh l ((i:Int).toNat*9+0)),none⟩],_,0,0,I,⟨(fun _=>I),J⟩,I,I,I,I,I,fun _ sg _ _=>aK I (jM I)⟩,
   ⟨⟨[⟨23,fun _=>Z (bh l ((i:Int).toNat*9+0)),some 3⟩],_,0,0,I,⟨(fun _=>I),J⟩,I,I,I,I,I,dX (fun sg=>aK I (fC (.tail _ (.tail _ (.head _))) q_e1 (M I)))⟩,
   ⟨⟨[⟨24,fun _=>Z (bh l ((i:Int).toNat*9+0)),some 4⟩],_,0,0,I,⟨(fun _=>I),J⟩,I,I,I,I,I,dX (fun sg=>aK I (aW (o:=(i:Int).toNat*9+0) (n:=(i:Int).toNat*9+3) qM I (.tail _ (.tail _ (.head _))) q_e1 (M I) I))⟩,
   ⟨⟨[⟨25,fun _=>Z (bh l ((i:Int).toNat*9+3)),some 5⟩],_,0,0,I,⟨(fun _=>I),J⟩,I,I,I,I,I,dX (fun sg=>aK I (aW (o:=(i:Int).toNat*9+3) (n:=(i:Int).toNat*9+6) xi I (.tail _ (.tail _ (.head _))) q_e1 (M I) I))⟩,
   ⟨⟨[⟨26,fun _=>Z (bh l ((i:Int).toNat*9+6)),some 6⟩],_,0,0,I,⟨(fun _=>I),J⟩,I,I,I,I,I,dX (fun sg=>aK I (cb (r:=cd) (i:=(i:Int)) (foff:=6) mT I I (fV mE pO) I (.tail _ (.tail _ (.head _))) q_e1 (M I)))⟩,
   ⟨⟨[⟨5,fun _=>Z (bh l ((i:Int).toNat*9+0)),none⟩],_,0,0,I,⟨(fun _=>I),J⟩,I,I,I,I,I,fun _ sg _ _=>aK I (jM I)⟩,
   ⟨⟨[⟨28,fun _=>Z (bh l ((i:Int).toNat*9+0)),some 8⟩],_,0,0,I,⟨(fun _=>I),J⟩,I,I,I,I,I,dX (fun sg=>aK I (fC (.tail _ (.tail _ (.head _))) q_e1 (M I)))⟩,
   ⟨⟨[⟨29,fun _=>Z (bh l ((i:Int).toNat*9+0)),some 9⟩],_,0,0,I,⟨(fun _=>I),J⟩,I,I,I,I,I,dX (fun sg=>aK I (aW (o:=(i:Int).toNat*9+0) (n:=(i:Int).toNat*9+3) qM I (.tail _ (.tail _ (.head _))) q_e1 (M I) I))⟩,
   ⟨⟨[⟨30,fun _=>Z (bh l ((i:Int).toNat*9+3)),some 10⟩],_,0,0,I,⟨(fun _=>I),J⟩,I,I,I,I,I,dX (fun sg=>aK I (aW (o:=(i:Int).toNat*9+3) (n:=(i:Int).toNat*9+6) xi I (.tail _ (.tail _ (.head _))) q_e1 (M I) I))⟩,
   ⟨⟨[⟨31,fun _=>Z (bh l ((i:Int).toNat*9+6)),some 11⟩],_,0,0,I,⟨(fun _=>I),J⟩,I,I,I,I,I,dX (fun sg=>aK I (cb (r:=cd) (i:=(i:Int)) (foff:=6) mT I I (fV mE pO) I (.tail _ (.tail _ (.head _))) q_e1 (M I)))⟩,
   ⟨⟨[⟨32,fun _=>K rS e1.Value.S,some 12⟩],_,0,0,I,⟨(fun _=>I),J⟩,I,I,I,I,I,fun _ sg _ _=>aK I (tK i6 (M I))⟩,
   ⟨⟨[⟨33,fun _=>K aU (e1.Value.S.length:Int),some 13⟩],_,0,0,I,⟨(fun _=>I),J⟩,I,I,I,I,I,fun _ sg _ _=>aK I (lz (M I) hI)⟩,
   ⟨⟨[⟨27,fun _=>K rS e1.Value.S,some 7⟩,⟨34,fun _=>K aU (min (e1.Value.S.length:Int) (60:Int)),some 14⟩],_,0,0,I,⟨(fun _=>I),(fun _=>I),J⟩,I,I,I,I,I,fun _ sg _ _=>aK I (t8 i6 (M I) (M I) q_y)⟩,
   ⟨⟨[⟨5,fun _=>Z (bh l ((i:Int).toNat*9+0)),none⟩],_,0,0,I,⟨(fun _=>I),J⟩,I,I,I,I,I,fun _ sg _ _=>aK I (jM I)⟩,
   ⟨⟨[⟨36,fun _=>Z (bh l ((i:Int).toNat*9+0)),some 16⟩],_,0,0,I,⟨(fun _=>I),J⟩,I,I,I,I,I,dX (fun sg=>aK I (fC (.tail _ (.tail _ (.head _))) q_e1 (M I)))⟩,
   ⟨⟨[⟨37,fun _=>Z (bh l ((i:Int).toNat*9+0)),some 17⟩],_,0,0,I,⟨(fun _=>I),J⟩,I,I,I,I,I,dX (fun sg=>aK I (aW (o:=(i:Int).toNat*9+0) (n:=(i:Int).toNat*9+7) qL I (.tail _ (.tail _ (.head _))) q_e1 (M I) I))⟩,
   ⟨⟨[⟨38,fun _=>Z (bh l ((i:Int).toNat*9+7)),some 18⟩],_,0,0,I,⟨(fun _=>I),J⟩,I,I,I,I,I,dX (fun sg=>aK I (cb (r:=cd) (i:=(i:Int)) (foff:=7) mT I I p6 I (.tail _ (.tail _ (.head _))) q_e1 (M I)))⟩,
   ⟨⟨[⟨5,fun _=>Z (bh l ((i:Int).toNat*9+0)),none⟩],_,0,0,I,⟨(fun _=>I),J⟩,I,I,I,I,I,fun _ sg _ _=>aK I (jM I)⟩,
   ⟨⟨[⟨40,fun _=>Z (bh l ((i:Int).toNat*9+0)),some 20⟩],_,0,0,I,⟨(fun _=>I),J⟩,I,I,I,I,I,dX (fun sg=>aK I (fC (.tail _ (.tail _ (.head _))) q_e1 (M I)))⟩,
   ⟨⟨[⟨41,fun _=>Z (bh l ((i:Int).toNat*9+0)),some 21⟩],_,0,0,I,⟨(fun _=>I),J⟩,I,I,I,I,I,dX (fun sg=>aK I (aW (o:=(i:Int).toNat*9+0) (n:=(i:Int).toNat*9+7) qL I (.tail _ (.tail _ (.head _))) q_e1 (M I) I))⟩,
   ⟨⟨[⟨42,fun _=>Z (bh l ((i:Int).toNat*9+7)),some 22⟩],_,0,0,I,⟨(fun _=>I),J⟩,I,I,I,I,I,dX (fun sg=>aK I (cb (r:=cd) (i:=(i:Int)) (foff:=7) mT I I p6 I (.tail _ (.tail _ (.head _))) q_e1 (M I)))⟩,
   ⟨⟨[⟨43,fun _=>K rS e1.Table,some 23⟩],_,0,1,I,⟨(fun _=>I),J⟩,I,I,I,I,I,fun _ sg _ _=>aK I (tK i6 (M I))⟩,
   ⟨⟨[⟨44,fun _=>K aU (e1.Table.length:Int),some 24⟩],_,0,1,I,⟨(fun _=>I),J⟩,I,I,I,I,I,fun _ sg _ _=>aK I (lz (M I) hI)⟩,
   ⟨⟨[⟨39,fun _=>K rS e1.Table,some 19⟩,⟨45,fun _=>K aU (min (e1.Table.length:Int) (40:Int)),some 25⟩],_,0,1,I,⟨(fun _=>I),(fun _=>I),J⟩,I,I,I,I,I,fun _ sg _ _=>aK I (t8 i6 (M I) (M I) q_y1)⟩,
   ⟨⟨[⟨5,fun _=>Z (bh l ((i:Int).toNat*9+0)),none⟩],_,0,0,I,⟨(fun _=>I),J⟩,I,I,I,I,I,fun _ sg _ _=>aK I (jM I)⟩,
   ⟨⟨[⟨47,fun _=>Z (bh l ((i:Int).toNat*9+0)),some 27⟩],_,0,0,I,⟨(fun _=>I),J⟩,I,I,I,I,I,dX (fun sg=>aK I (fC (.tail _ (.tail _ (.head _))) q_e1 (M I)))⟩,
   ⟨⟨[⟨48,fun _=>Z (bh l ((i:Int).toNat*9+0)),some 28⟩],_,0,0,I,⟨(fun _=>I),J⟩,I,I,I,I,I,dX (fun sg=>aK I (aW (o:=(i:Int).toNat*9+0) (n:=(i:Int).toNat*9+8) sj I (.tail _ (.tail _ (.head _))) q_e1 (M I) I))⟩,
   ⟨⟨[⟨49,fun _=>Z (bh l ((i:Int).toNat*9+8)),some 29⟩],_,0,0,I,⟨(fun _=>I),J⟩,I,I,I,I,I,dX (fun sg=>aK I (cb (r:=cd) (i:=(i:Int)) (foff:=8) mT I I p5 I (.tail _ (.tail _ (.head _))) q_e1 (M I)))⟩,
   ⟨⟨[⟨5,fun _=>Z (bh l ((i:Int).toNat*9+0)),none⟩],_,0,0,I,⟨(fun _=>I),J⟩,I,I,I,I,I,fun _ sg _ _=>aK I (jM I)⟩,
   ⟨⟨[⟨51,fun _=>Z (bh l ((i:Int).toNat*9+0)),some 31⟩],_,0,0,I,⟨(fun _=>I),J⟩,I,I,I,I,I,dX (fun sg=>aK I (fC (.tail _ (.tail _ (.head _))) q_e1 (M I)))⟩,
   ⟨⟨[⟨52,fun _=>Z (bh l ((i:Int).toNat*9+0)),some 32⟩],_,0,0,I,⟨(fun _=>I),J⟩,I,I,I,I,I,dX (fun sg=>aK I (aW (o:=(i:Int).toNat*9+0) (n:=(i:Int).toNat*9+8) sj I (.tail _ (.tail _ (.head _))) q_e1 (M I) I))⟩,
   ⟨⟨[⟨53,fun _=>Z (bh l ((i:Int).toNat*9+8)),some 33⟩],_,0,0,I,⟨(fun _=>I),J⟩,I,I,I,I,I,dX (fun sg=>aK I (cb (r:=cd) (i:=(i:Int)) (foff:=8) mT I I p5 I (.tail _ (.tail _ (.head _))) q_e1 (M I)))⟩,
   ⟨⟨[⟨54,fun _=>K rS e1.Name,some 34⟩],_,0,2,I,⟨(fun _=>I),J⟩,I,I,I,I,I,fun _ sg _ _=>aK I (tK i6 (M I))⟩,
   ⟨⟨[⟨55,fun _=>K aU (e1.Name.length:Int),some 35⟩],_,0,2,I,⟨(fun _=>I),J⟩,I,I,I,I,I,fun _ sg _ _=>aK I (lz (M I) hI)⟩,
   ⟨⟨[⟨50,fun _=>K rS e1.Name,some 30⟩,⟨56,fun _=>K aU (min (e1.Name.length:Int) (40:Int)),some 36⟩],_,0,2,I,⟨(fun _=>I),(fun _=>I),J⟩,I,I,I,I,I,fun _ sg _ _=>aK I (t8 i6 (M I) (M I) q_y2)⟩,
   ⟨⟨[⟨20,fun _=>Z (bh l ((i:Int).toNat*9+0)),some 0⟩],_,0,0,I,⟨(fun _=>I),J⟩,I,I,I,I,I,dX (fun sg=>aK I (fC (.tail _ (.tail _ (.head _))) q_e1 (M I)))⟩,
   ⟨⟨[⟨58,fun _=>Z (bh l ((i:Int).toNat*9+0)),some 38⟩],_,0,0,I,⟨(fun _=>I),J⟩,I,I,I,I,I,dX (fun sg=>aK I (aW (o:=(i:Int).toNat*9+0) (n:=(i:Int).toNat*9+3) qM I (.tail _ (.tail _ (.head _))) q_e1 (M I) I))⟩,
   ⟨⟨[⟨59,fun _=>Z (bh l ((i:Int).toNat*9+3)),some 39⟩],_,0,0,I,⟨(fun _=>I),J⟩,I,I,I,I,I,dX (fun sg=>aK I (aW (o:=(i:Int).toNat*9+3) (n:=(i:Int).toNat*9+6) xi I (.tail _ (.tail _ (.head _))) q_e1 (M I) I))⟩,
   ⟨⟨[⟨60,fun _=>Z (bh l ((i:Int).toNat*9+6)),some 40⟩,⟨35,fun _=>K rS y,some 15⟩],_,I,⟨(fun _=>I),(fun _=>I),J⟩,I,I,I,fun sg=>bL I (EffOK.fr2 (rK (r:=cd) (i:=(i:Int)) (foff:=6) mT I (j8 mE I5 Bl) I q_e1 (so q_st) (M I) (M I)))⟩,
   ⟨⟨[⟨21,fun _=>Z (bh l ((i:Int).toNat*9+0)),some 1⟩],_,1,1,I,⟨(fun _=>I),J⟩,I,I,I,I,I,dX (fun sg=>aK I (fC (.head _) q_e2 (M I)))⟩,
   ⟨⟨[⟨61,fun _=>Z (bh l ((i:Int).toNat*9+0)),some 42⟩],_,1,1,I,⟨(fun _=>I),J⟩,I,I,I,I,I,dX (fun sg=>aK I (aW (o:=(i:Int).toNat*9+0) (n:=(i:Int).toNat*9+7) qL I (.head _) q_e2 (M I) I))⟩,
   ⟨⟨[⟨62,fun _=>Z (bh l ((i:Int).toNat*9+7)),some 43⟩,⟨46,fun _=>K rS y1,some 26⟩],_,I,⟨(fun _=>I),(fun _=>I),J⟩,I,I,I,fun sg=>bL I (rK (r:=cd) (i:=(i:Int)) (foff:=7) mT I DV I q_e2 (so q_st1) (M I) (M I))⟩,
   J⟩⟩⟩⟩⟩⟩⟩⟩⟩⟩⟩⟩⟩⟩⟩⟩⟩⟩⟩⟩⟩⟩⟩⟩⟩⟩⟩⟩⟩⟩⟩⟩⟩⟩⟩⟩⟩⟩⟩⟩⟩⟩⟩⟩⟩ (fun sg=>?_)
  refine(show RG _ _ _ _ [_,_,_] _ from ?_);refine jm (O' :=[dv cd 113 l c st1,bx aX 50 b qd,bx eu 50 b1 (fD out (Y l c st1.length))]) (by first|(rw [dS (so q_st1),dS (so q_st)];done)|(rw [dS (so q_st1),dS (so q_st)];exact I)|exact I)<|cV h fun e3 q_e3 h=>Q (fC (.head _) q_e3 (M I))<|Q (aW (o:=(i:Int).toNat*9+0) (n:=(i:Int).toNat*9+8) sj I (.head _) q_e3 (M I) I)<|cV h fun st2 q_st2 h=>ir mT I DU I q_e3 (so q_st2) (M I) (M I)<|jm (O' :=[dv cd 113 l c st2,bx aX 50 b qd,bx eu 50 b1 (fD out (Y l c st2.length))]) (by first|(rw [dS (so q_st2)];done)|(rw [dS (so q_st2)];exact I)|exact I)<|bu<|eP D hN I<|fF<|fF ?_;exact bl (aP (ih (i+1) ({out with Nodes:=st2}:bT) ⟨eg D,h⟩) (bO I))

def Rd q{R}(h:oL q=some R):dZ aY 6 [K bk q] (K bk R):=by
 refine fc Tryz.func6 I<|bA<|Dp (M I) I fun b=>ba qo wb I fun b1=>co<|aE<|cV h fun r q_r h=>cV h fun r1 q_r1 h=>?_
 refine fY 7 [tc (Z (al b 0)),tc (jo (aR) q.Selects),([2],fun s=>Z (Y ((s.getD 0 oA).h 0).1 ((s.getD 0 oA).h 0).2 r.length)),tc (Z (al b 1)),tc (jo (jG) q.Keys),tc (jo (jG) r1),tc (Z (al b 0))] [false,false,true,false,false,false,false] [fun _=>[bx bk 28 b1 Ar,bx bk 28 b q],fun sg=>[dv aR 53 ((sg 2).h 0).1 ((sg 2).h 0).2 r,bx bk 28 b1 Ar,bx bk 28 b q]] I mixed I I I I I
  ⟨⟨[⟨1,fun _=>Z (al b 0),none⟩],_,0,0,I,⟨(fun _=>I),J⟩,I,I,I,I,I,fun _ sg _ _=>aK I (qX 0 qK I I I)⟩,
  ⟨⟨[⟨9,fun _=>Z (al b 0),some 0⟩],_,0,0,I,⟨(fun _=>I),J⟩,I,I,I,I,I,dX (fun sg=>aK I (bn Bh I I pQ (.tail _ (.head _)) (M I)))⟩,
  ⟨⟨[⟨10,fun _=>K (fJ aR) q.Selects,some 1⟩],_,I,⟨(fun _=>I),J⟩,I,I,I,fun sg=>bL I (p8 (xs:=[.tmp 10,.const (.int .i64 (4))]) (ts:=[K (fJ aR) q.Selects,K aU (4:Int)]) abO (Rj _ _ q_r) ⟨(M I),hI,J⟩)⟩,
  ⟨⟨[⟨1,fun _=>Z (al b 0),none⟩],_,0,1,I,⟨(fun _=>I),J⟩,I,I,I,I,I,fun _ sg _ _=>aK I (qX 1 zf I I I)⟩,
  ⟨⟨[⟨12,fun _=>Z (al b 1),some 3⟩],_,0,1,I,⟨(fun _=>I),J⟩,I,I,I,I,I,rq (fun sg=>aK I (bn Iu I I pP (.tail _ (.head _)) (M I))) (dX (fun sg=>aK I (bn Iu I I pP (.tail _ (.tail _ (.head _))) (M I))))⟩,
  ⟨⟨[⟨13,fun _=>K (fJ jG) q.Keys,some 4⟩],_,1,1,I,⟨(fun _=>I),J⟩,I,I,I,I,I,fun _ sg _ _=>aK I (bH abL (Vk _ _ q_r1) ⟨(M I),hI,J⟩)⟩,
  ⟨⟨[⟨1,fun _=>Z (al b 0),none⟩],_,1,1,I,⟨(fun _=>I),J⟩,I,I,I,I,I,fun _ sg _ _=>aK I (qX 0 qK I I I)⟩,
  J⟩⟩⟩⟩⟩⟩⟩ (fun sg=>?_)
 refine(show RG _ _ _ _ [_,_,_] _ from ?_);refine gw<|fv Bh I (uw q _) I (M I) (Nz (M I))<|ca 1 zf I<|cG Iu Cz I<|co<|bN<|ca 0 qK I<|Q (fg Bh oO (.head _) I (M I))<|Q (fa u0 (.tail _ (.head _)) (M I))<|Q (bG hI)<|co<|am<|fQ (.tail _ (.head _)) fun hN=>cc<|gx<|gx<|jt ?_;refine aP (gY (tV:=fun ls i q1=>(r.drop i=ls)/\iE ls i q1=some R) (Of:=fun _ i q1=>[bx bk 28 b1 Ar,bx cH 28 b (dd q1 (Y ((sg 2).h 0).1 ((sg 2).h 0).2 q1.Selects.length)),dv aR 53 ((sg 2).h 0).1 ((sg 2).h 0).2 q1.Selects]) (Gf:=fun _ i q1=>[(1,Z (al b 0)),(2,Z (al b1 0)),(18,Z (Y ((sg 2).h 0).1 ((sg 2).h 0).2 r.length)),(19,mY r),(20,br (i:Int))]) (fun i q1 h=>?_) (fun e tl ih i q1 h=>?_) r 0 ({({q with Keys:=r1}:be)with Selects:=r}:be) ⟨I,h⟩) (bO I)
 ·obtain⟨D,h⟩:=h
  refine fH D I<|aC<|bA<|gw<|jr<|Q (oa (q:=bk) (y:=q1) qo I I I I (.tail _ (.tail _ (.head _))) (fun _ _ _ ho h=>xQ (ly ho (.head _)) h) (M I))<|cY<|cG qo ak I<|fh<|dV 2 I ?_;exact aZ<|aZ<|so h▸sN I qo I I I
 ·obtain⟨D,h⟩:=h
  refine fG D I<|aE<|am<|aQ I<|cV h fun e1 q_e1 h=>Q (iw u0 oF (.tail _ (.tail _ (.head _))) (M I) (M I) q_e1 (nl D))<|cV h fun e2 q_e2 h=>Q (cb (r:=aR) (i:=(i:Int)) (foff:=0) oF I I cg I (.tail _ (.tail _ (.head _))) q_e2 (M I))<|cM false cv 59<|cM false cz 57<|cM false cK 62<|ba (r:=av) (x:=cA (⟨false,false,[],(⟨[],[]⟩:ci),[],qd,qd,[]⟩:ae) (Y none 0 (([]:List ev).length)) (Y none 0 (([]:List g9).length)) (Y none 0 (([]:List gk).length))) oF xF I fun b2=>lI I ?_;refine fv (r' :=aR) (x' :=e2) oF I (fB I) I (M I) (M I) ?_;refine(show RG _ _ _ _ [_,_,_,_,_,_,_] _ from ?_);refine cY<|ny<|cY<|ny<|cY<|ny<|co<|aE<|cV h fun r2 q_r2 h=>cV h fun r3 q_r3 h=>cV h fun r4 q_r4 h=>?_
  refine fY 10 [tc (Z (al b2 2)),tc (jo (cv) e2.Items),([2],fun s=>Z (Y ((s.getD 0 oA).h 0).1 ((s.getD 0 oA).h 0).2 r2.length)),tc (Z (al b2 5)),tc (jo (cz) e2.Joins),([5],fun s=>Z (Y ((s.getD 0 oA).h 0).1 ((s.getD 0 oA).h 0).2 r3.length)),tc (Z (al b2 8)),tc (jo (cK) e2.Group),([8],fun s=>Z (Y ((s.getD 0 oA).h 0).1 ((s.getD 0 oA).h 0).2 r4.length)),tc (Z (al b2 2))] [false,false,true,false,false,true,false,false,true,false] [fun _=>[bx aR 53 b2 e2,bx bk 28 b1 Ar,bx cH 28 b (dd q1 (Y ((sg 2).h 0).1 ((sg 2).h 0).2 q1.Selects.length)),dv aR 53 ((sg 2).h 0).1 ((sg 2).h 0).2 q1.Selects],fun sg1=>[dv cv 59 ((sg1 2).h 0).1 ((sg1 2).h 0).2 r2,bx aR 53 b2 e2,bx bk 28 b1 Ar,bx cH 28 b (dd q1 (Y ((sg 2).h 0).1 ((sg 2).h 0).2 q1.Selects.length)),dv aR 53 ((sg 2).h 0).1 ((sg 2).h 0).2 q1.Selects],fun sg1=>[dv cz 57 ((sg1 5).h 0).1 ((sg1 5).h 0).2 r3,dv cv 59 ((sg1 2).h 0).1 ((sg1 2).h 0).2 r2,bx aR 53 b2 e2,bx bk 28 b1 Ar,bx cH 28 b (dd q1 (Y ((sg 2).h 0).1 ((sg 2).h 0).2 q1.Selects.length)),dv aR 53 ((sg 2).h 0).1 ((sg 2).h 0).2 q1.Selects],fun sg1=>[dv cK 62 ((sg1 8).h 0).1 ((sg1 8).h 0).2 r4,dv cz 57 ((sg1 5).h 0).1 ((sg1 5).h 0).2 r3,dv cv 59 ((sg1 2).h 0).1 ((sg1 2).h 0).2 r2,bx aR 53 b2 e2,bx bk 28 b1 Ar,bx cH 28 b (dd q1 (Y ((sg 2).h 0).1 ((sg 2).h 0).2 q1.Selects.length)),dv aR 53 ((sg 2).h 0).1 ((sg 2).h 0).2 q1.Selects]] I mixed I I I I I
   ⟨⟨[⟨4,fun _=>Z (al b2 0),none⟩],_,0,0,I,⟨(fun _=>I),J⟩,I,I,I,I,I,fun _ sg1 _ _=>aK I (qX 2 pb I I I)⟩,
   ⟨⟨[⟨25,fun _=>Z (al b2 2),some 0⟩],_,0,0,I,⟨(fun _=>I),J⟩,I,I,I,I,I,dX (fun sg1=>aK I (bn At I I mW (.head _) (M I)))⟩,
   ⟨⟨[⟨26,fun _=>K (fJ cv) e2.Items,some 1⟩],_,I,⟨(fun _=>I),J⟩,I,I,I,fun sg1=>bL I (p8 (xs:=[.tmp 26,.const (.int .i64 (7))]) (ts:=[K (fJ cv) e2.Items,K aU (7:Int)]) abJ (Ri _ _ q_r2) ⟨(M I),hI,J⟩)⟩,
   ⟨⟨[⟨4,fun _=>Z (al b2 0),none⟩],_,0,1,I,⟨(fun _=>I),J⟩,I,I,I,I,I,fun _ sg1 _ _=>aK I (qX 5 pR I I I)⟩,
   ⟨⟨[⟨28,fun _=>Z (al b2 5),some 3⟩],_,0,1,I,⟨(fun _=>I),J⟩,I,I,I,I,I,rq (fun sg1=>aK I (bn yD I I oj (.head _) (M I))) (dX (fun sg1=>aK I (bn yD I I oj (.tail _ (.head _)) (M I))))⟩,
   ⟨⟨[⟨29,fun _=>K (fJ cz) e2.Joins,some 4⟩],_,I,⟨(fun _=>I),J⟩,I,I,I,fun sg1=>bL I (p8 (xs:=[.tmp 29,.const (.int .i64 (3))]) (ts:=[K (fJ cz) e2.Joins,K aU (3:Int)]) abI (Rh _ _ q_r3) ⟨(M I),hI,J⟩)⟩,
   ⟨⟨[⟨4,fun _=>Z (al b2 0),none⟩],_,0,2,I,⟨(fun _=>I),J⟩,I,I,I,I,I,fun _ sg1 _ _=>aK I (qX 8 vQ I I I)⟩,
   ⟨⟨[⟨31,fun _=>Z (al b2 8),some 6⟩],_,0,2,I,⟨(fun _=>I),J⟩,I,I,I,I,I,rq (fun sg1=>aK I (bn Cq I I kJ (.head _) (M I))) (rq (fun sg1=>aK I (bn Cq I I kJ (.tail _ (.head _)) (M I))) (dX (fun sg1=>aK I (bn Cq I I kJ (.tail _ (.tail _ (.head _))) (M I)))))⟩,
   ⟨⟨[⟨32,fun _=>K (fJ cK) e2.Group,some 7⟩],_,I,⟨(fun _=>I),J⟩,I,I,I,fun sg1=>bL I (p8 (xs:=[.tmp 32,.const (.int .i64 (4))]) (ts:=[K (fJ cK) e2.Group,K aU (4:Int)]) abH (Rg _ _ q_r4) ⟨(M I),hI,J⟩)⟩,
   ⟨⟨[⟨4,fun _=>Z (al b2 0),none⟩],_,1,3,I,⟨(fun _=>I),J⟩,I,I,I,I,I,fun _ sg1 _ _=>aK I (qX 2 pb I I I)⟩,
   J⟩⟩⟩⟩⟩⟩⟩⟩⟩⟩ (fun sg1=>?_)
  refine(show RG _ _ _ _ [_,_,_,_,_,_,_] _ from ?_);refine jq<|fv At I (th e2 _) I (M I) (Nz (M I))<|ca 5 pR I<|fv yD I (pW e2 _ _) I (M I) (Nz (M I))<|ca 8 vQ I<|fv Cq I (nM e2 _ _ _) I (M I) (Nz (M I))<|co<|bN<|ca 2 pb I<|Q (fg At ka (.head _) I (M I))<|Q (fa sQ (.tail _ (.tail _ (.tail _ (.head _)))) (M I))<|Q (bG hI)<|co<|am<|fQ (.tail _ (.tail _ (.tail _ (.head _)))) fun hN1=>cc<|gx<|jt<|oY<|oY ?_;refine uj<|uj<|uj ?_;refine aP (gY (tV:=fun ls1 i1 s=>(r2.drop i1=ls1)/\nc (iE tl) i q1 ls1 i1 s=some R) (Of:=fun _ i1 s=>[bx bk 28 b1 Ar,bx cH 28 b (dd q1 (Y ((sg 2).h 0).1 ((sg 2).h 0).2 q1.Selects.length)),dv aR 53 ((sg 2).h 0).1 ((sg 2).h 0).2 q1.Selects,bx av 53 b2 (cA s (Y ((sg1 2).h 0).1 ((sg1 2).h 0).2 s.Items.length) (Y ((sg1 5).h 0).1 ((sg1 5).h 0).2 s.Joins.length) (Y ((sg1 8).h 0).1 ((sg1 8).h 0).2 s.Group.length)),dv cv 59 ((sg1 2).h 0).1 ((sg1 2).h 0).2 s.Items,dv cz 57 ((sg1 5).h 0).1 ((sg1 5).h 0).2 s.Joins,dv cK 62 ((sg1 8).h 0).1 ((sg1 8).h 0).2 s.Group]) (Gf:=fun _ i1 s=>[(1,Z (al b 0)),(2,Z (al b1 0)),(3,br (i:Int)),(4,Z (al b2 0)),(18,Z (Y ((sg 2).h 0).1 ((sg 2).h 0).2 r.length)),(19,mY r),(20,br (i:Int)),(38,Z (Y ((sg1 2).h 0).1 ((sg1 2).h 0).2 r2.length)),(39,mY r2),(40,br (i1:Int))]) (fun i1 s h=>?_) (fun e3 tl1 ih1 i1 s h=>?_) r2 0 ({({({e2 with Items:=r2}:ae)with Joins:=r3}:ae)with Group:=r4}:ae) ⟨I,h⟩) (bO I)
  ·obtain⟨hx1,h⟩:=h
   refine fH hx1 I<|aC<|bN<|ca 5 pR I<|Q (fg yD im (.tail _ (.tail _ (.tail _ (.head _)))) I (M I))<|Q (fa vH (.tail _ (.tail _ (.tail _ (.tail _ (.tail _ (.head _)))))) (M I))<|Q (bG hI)<|co<|am<|fQ (.tail _ (.tail _ (.tail _ (.tail _ (.tail _ (.head _)))))) fun hN2=>?_;refine cc ?_;refine aP (gY (tV:=fun ls2 i2 s1=>(s.Joins.drop i2=ls2)/\nb (iE tl) i q1 ls2 i2 s1=some R) (Of:=fun _ i2 s1=>[bx bk 28 b1 Ar,bx cH 28 b (dd q1 (Y ((sg 2).h 0).1 ((sg 2).h 0).2 q1.Selects.length)),dv aR 53 ((sg 2).h 0).1 ((sg 2).h 0).2 q1.Selects,bx av 53 b2 (cA s1 (Y ((sg1 2).h 0).1 ((sg1 2).h 0).2 s1.Items.length) (Y ((sg1 5).h 0).1 ((sg1 5).h 0).2 s1.Joins.length) (Y ((sg1 8).h 0).1 ((sg1 8).h 0).2 s1.Group.length)),dv cv 59 ((sg1 2).h 0).1 ((sg1 2).h 0).2 s1.Items,dv cz 57 ((sg1 5).h 0).1 ((sg1 5).h 0).2 s1.Joins,dv cK 62 ((sg1 8).h 0).1 ((sg1 8).h 0).2 s1.Group]) (Gf:=fun _ i2 s1=>[(1,Z (al b 0)),(2,Z (al b1 0)),(3,br (i:Int)),(4,Z (al b2 0)),(18,Z (Y ((sg 2).h 0).1 ((sg 2).h 0).2 r.length)),(19,mY r),(20,br (i:Int)),(55,Z (Y ((sg1 5).h 0).1 ((sg1 5).h 0).2 s.Joins.length)),(56,mY s.Joins),(57,br (i2:Int))]) (fun i2 s1 h=>?_) (fun e4 tl2 ih2 i2 s1 h=>?_) s.Joins 0 s ⟨I,h⟩) (bO I)
   ·obtain⟨hx2,h⟩:=h
    refine fH hx2 I<|aC<|aE<|cV h fun r5 q_r5 h=>cV h fun r6 q_r6 h=>?_
    refine oz 7 (ts:=[Z (al b2 6),K aX s1.Where,K aX r5,Z (al b2 7),K aX s1.Having,K aX r6,Z (al b2 6)]) mixed I I I
     ⟨DF 4 I I (qX 6 xj I I I),
     ⟨mU 71 0 I I (bn (r:=av) (x:=cA s1 (Y ((sg1 2).h 0).1 ((sg1 2).h 0).2 s1.Items.length) (Y ((sg1 5).h 0).1 ((sg1 5).h 0).2 s1.Joins.length) (Y ((sg1 8).h 0).1 ((sg1 8).h 0).2 s1.Group.length)) ic I I qI (.tail _ (.tail _ (.tail _ (.head _)))) (M I)),
     ⟨mU 72 1 I I (bH Ld (zh _ q_r5) ⟨(M I),J⟩),
     ⟨DF 4 I I (qX 7 vR I I I),
     ⟨mU 74 3 I I (bn (r:=av) (x:=cA s1 (Y ((sg1 2).h 0).1 ((sg1 2).h 0).2 s1.Items.length) (Y ((sg1 5).h 0).1 ((sg1 5).h 0).2 s1.Joins.length) (Y ((sg1 8).h 0).1 ((sg1 8).h 0).2 s1.Group.length)) ic I I qH (.tail _ (.tail _ (.tail _ (.head _)))) (M I)),
     ⟨mU 75 4 I I (bH Ld (zh _ q_r6) ⟨(M I),J⟩),
     ⟨DF 4 I I (qX 6 xj I I I),
     J⟩⟩⟩⟩⟩⟩⟩ ?_
    refine jq<|cG ic qr I<|ca 7 vR I<|cG ic qq I<|co<|aO<|ca 0 qK I<|Q (fg Bh oO (.tail _ (.tail _ (.head _))) I (M I))<|bC I<|ui<|jr<|Ai<|jr<|uh<|jr<|Q (oa (q:=aR) (y:=({({({({({s1 with Where:=r5}:ae)with Having:=r6}:ae)with Items:=s1.Items}:ae)with Joins:=s1.Joins}:ae)with Group:=s1.Group}:ae)) oF I I I I (.tail _ (.tail _ (.tail _ (.head _)))) (fun _ _ _ ho h=>om (ly ho (.tail _ (.tail _ (.head _)))) (ly ho (.tail _ (.head _))) (ly ho (.head _)) h) (M I))<|Q (bo u0 oF (.tail _ (.tail _ (.tail _ (.tail _ (.tail _ (.tail _ (.head _))))))) (M I) (M I) q_e2)<|uh<|cV h fun st q_st h=>ir oF I ak I q_e2 (so q_st) (M I) (M I)<|iW (dS (so q_st)) 80 I<|jm (O' :=[dv aR 53 ((sg 2).h 0).1 ((sg 2).h 0).2 st,d cK 62 ((sg1 8).h 0).1 ((sg1 8).h 0).2 s1.Group,d cz 57 ((sg1 5).h 0).1 ((sg1 5).h 0).2 s1.Joins,d cv 59 ((sg1 2).h 0).1 ((sg1 2).h 0).2 s1.Items,bx av 53 b2 (cA ({({s1 with Where:=r5}:ae)with Having:=r6}:ae) (Y ((sg1 2).h 0).1 ((sg1 2).h 0).2 s1.Items.length) (Y ((sg1 5).h 0).1 ((sg1 5).h 0).2 s1.Joins.length) (Y ((sg1 8).h 0).1 ((sg1 8).h 0).2 s1.Group.length)),bx bk 28 b1 Ar,bx cH 28 b (dd q1 (Y ((sg 2).h 0).1 ((sg 2).h 0).2 st.length))]) (by first|(rw [dS (so q_st)];done)|(rw [dS (so q_st)];exact I)|exact I)<|bu ?_;refine eP D hN I<|dW<|aZ<|dW<|aZ<|dW<|aZ<|dW<|aZ<|fF<|fF ?_;exact bl (aP (ih (i+1) ({q1 with Selects:=st}:be) ⟨eg D,h⟩) (bO I))
   ·obtain⟨hx2,h⟩:=h
    refine fG hx2 I<|aE<|am<|aQ I<|cV h fun e5 q_e5 h=>Q (iw vH sU (.tail _ (.tail _ (.tail _ (.tail _ (.tail _ (.head _)))))) (M I) (M I) q_e5 (nl hx2))<|cV h fun e6 q_e6 h=>Q (cb (r:=cz) (i:=(i2:Int)) (foff:=0) sU I I cg I (.tail _ (.tail _ (.tail _ (.tail _ (.tail _ (.head _)))))) q_e6 (M I))<|ba sU Cn I fun b3=>lI I<|cG sU ak I<|a8 8 I<|bu ?_;refine aC<|cV h fun r7 q_r7 h=>?_
    refine oz 8 (ts:=[Z (al b2 5),Z (Y ((sg1 5).h 0).1 ((sg1 5).h 0).2 s1.Joins.length),br (i2:Int),bt aX e6.On,K aX e6.On,K aX r7,Z (bh ((sg1 5).h 0).1 ((i2:Int).toNat*4+0)),Z (bh ((sg1 5).h 0).1 ((i2:Int).toNat*4+3))]) mixed I I I
     ⟨DF 4 I I (qX 5 pR I I I),
     ⟨mU 62 0 I I (fg yD im (.tail _ (.tail _ (.tail _ (.head _)))) I (M I)),
     ⟨kO I I,
     ⟨DF 8 I I (AC ze wq I I),
     ⟨wc 3 ic I I,
     ⟨mU 66 4 I I (bH Ld (zh _ q_r7) ⟨(M I),J⟩),
     ⟨ma 63 1 64 2 I I I (bo vH sU (.tail _ (.tail _ (.tail _ (.tail _ (.tail _ (.head _)))))) (M I) (M I) q_e6),
     ⟨mU 68 6 I I (aW (o:=(i2:Int).toNat*4+0) (n:=(i2:Int).toNat*4+3) ze I (.tail _ (.tail _ (.tail _ (.tail _ (.tail _ (.head _)))))) q_e6 (M I) I),
     J⟩⟩⟩⟩⟩⟩⟩⟩ ?_
    refine Ai<|cV h fun st1 q_st1 h=>ir ic I DX I q_e6 (so q_st1) (M I) (M I)<|iW (dS (so q_st1)) 63 I<|jm (O' :=[dv cz 57 ((sg1 5).h 0).1 ((sg1 5).h 0).2 st1,bx bk 28 b1 Ar,bx cH 28 b (dd q1 (Y ((sg 2).h 0).1 ((sg 2).h 0).2 q1.Selects.length)),dv aR 53 ((sg 2).h 0).1 ((sg 2).h 0).2 q1.Selects,bx av 53 b2 (cA s1 (Y ((sg1 2).h 0).1 ((sg1 2).h 0).2 s1.Items.length) (Y ((sg1 5).h 0).1 ((sg1 5).h 0).2 st1.length) (Y ((sg1 8).h 0).1 ((sg1 8).h 0).2 s1.Group.length)),dv cv 59 ((sg1 2).h 0).1 ((sg1 2).h 0).2 s1.Items,dv cK 62 ((sg1 8).h 0).1 ((sg1 8).h 0).2 s1.Group]) (by first|(rw [dS (so q_st1)];done)|(rw [dS (so q_st1)];exact I)|exact I)<|bu<|eP hx2 hN2 I<|eG<|dW<|eG<|eG<|eG<|eG<|eG ?_;exact bl (aP (ih2 (i2+1) ({s1 with Joins:=st1}:ae) ⟨eg hx2,h⟩) (bO I))
  ·obtain⟨hx1,h⟩:=h
   refine fG hx1 I<|aE<|am<|aQ I<|cV h fun e7 q_e7 h=>Q (iw sQ oE (.tail _ (.tail _ (.tail _ (.tail _ (.head _))))) (M I) (M I) q_e7 (nl hx1))<|cV h fun e8 q_e8 h=>Q (cb (r:=cv) (i:=(i1:Int)) (foff:=0) oE I I cg I (.tail _ (.tail _ (.tail _ (.tail _ (.head _))))) q_e8 (M I))<|ba oE u6 I fun b4=>lI I<|cG oE ak I<|a8 6 I<|bu ?_;refine aC<|cV h fun r8 q_r8 h=>?_
   refine oz 8 (ts:=[Z (al b2 2),Z (Y ((sg1 2).h 0).1 ((sg1 2).h 0).2 s.Items.length),br (i1:Int),bt aX e8.Tree,K aX e8.Tree,K aX r8,Z (bh ((sg1 2).h 0).1 ((i1:Int).toNat*2+0)),Z (bh ((sg1 2).h 0).1 ((i1:Int).toNat*2+0))]) mixed I I I
    ⟨DF 4 I I (qX 2 pb I I I),
    ⟨mU 45 0 I I (fg At ka (.tail _ (.tail _ (.tail _ (.head _)))) I (M I)),
    ⟨kO I I,
    ⟨DF 6 I I (AC te oP I I),
    ⟨wc 3 ic I I,
    ⟨mU 49 4 I I (bH Ld (zh _ q_r8) ⟨(M I),J⟩),
    ⟨ma 46 1 47 2 I I I (bo sQ oE (.tail _ (.tail _ (.tail _ (.tail _ (.head _))))) (M I) (M I) q_e8),
    ⟨mU 51 6 I I (aW (o:=(i1:Int).toNat*2+0) (n:=(i1:Int).toNat*2+0) te I (.tail _ (.tail _ (.tail _ (.tail _ (.head _))))) q_e8 (M I) I),
    J⟩⟩⟩⟩⟩⟩⟩⟩ ?_
   refine ui<|cV h fun st2 q_st2 h=>ir ic I zM I q_e8 (so q_st2) (M I) (M I)<|iW (dS (so q_st2)) 46 I<|jm (O' :=[dv cv 59 ((sg1 2).h 0).1 ((sg1 2).h 0).2 st2,bx bk 28 b1 Ar,bx cH 28 b (dd q1 (Y ((sg 2).h 0).1 ((sg 2).h 0).2 q1.Selects.length)),dv aR 53 ((sg 2).h 0).1 ((sg 2).h 0).2 q1.Selects,bx av 53 b2 (cA s (Y ((sg1 2).h 0).1 ((sg1 2).h 0).2 st2.length) (Y ((sg1 5).h 0).1 ((sg1 5).h 0).2 s.Joins.length) (Y ((sg1 8).h 0).1 ((sg1 8).h 0).2 s.Group.length)),dv cz 57 ((sg1 5).h 0).1 ((sg1 5).h 0).2 s.Joins,dv cK 62 ((sg1 8).h 0).1 ((sg1 8).h 0).2 s.Group]) (by first|(rw [dS (so q_st2)];done)|(rw [dS (so q_st2)];exact I)|exact I)<|bu<|eP hx1 hN1 I<|eG<|eG<|fF<|eG<|eG<|eG<|eG ?_;exact bl (aP (ih1 (i1+1) ({s with Items:=st2}:ae) ⟨eg hx1,h⟩) (bO I))

end Go.Proofs.YtigldkegamffhaaGreatDoor

