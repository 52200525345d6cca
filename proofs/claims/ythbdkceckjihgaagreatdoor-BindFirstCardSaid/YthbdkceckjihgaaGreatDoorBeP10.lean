/- cu of this claim: P10. -/
import Derived.Test.YthbdkceckjihgaaGreatDoorBeT
import Derived.Test.YthbdkceckjihgaaGreatDoorBeP9
set_option linter.all false
namespace Go.Proofs.YthbdkceckjihgaaGreatDoor
open Go
set_option maxRecDepth 100000

def SN l most{R}(h:qf l most=some R):j8 aO 22 [yC l,ba most] false aG 3 R:=by
 exact j8.of Tryz.func22 I I I fun w0 S0=>bB<|cn false aG 3<|af (cy C0)<|ci<|bB<|iJ (r:=aG) (ys:=Cu) (xs:=[]) iO dC I I I I I trivial I fun l1 c=>bE I<|bE I<|dN iO I<|bE I<|af (me (M I) (M I))<|cI h fun y q_y h=>af (lu iO dC I (M I) (M I) q_y)<|cI h fun x q_x h=>fN dC I I I I iO I I (M I) (M I) q_x fun l2 c1=>bm I<|so h▸pp I I
def VG l most{R}(h:qf l most=some R):dn aO 22 [yC l,ba most] (yC R):=(SN _ _ h).spec

def SI l most{R}(h:nq l most=some R):j8 aO 30 [iL (cD) l,ba most] false cD 110 R:=by
 exact j8.of Tryz.func30 I I I fun w0 S0=>bB<|cn false cD 110<|af (cy C0)<|ci<|bB<|iJ (r:=cD) (ys:=([]:List bp)) (xs:=[]) vP mq I I I I I trivial I fun l1 c=>bE I<|bE I<|dN vP I<|bE I<|af (me (M I) (M I))<|cI h fun y q_y h=>af (lu vP mq I (M I) (M I) q_y)<|cI h fun x q_x h=>fN mq I I I I vP I I (M I) (M I) q_x fun l2 c1=>bm I<|so h▸pp I I
def SG l most{R}(h:j4 l most=some R):j8 aO 31 [iL (cr) l,ba most] false cr 113 R:=by
 exact j8.of Tryz.func31 I I I fun w0 S0=>bB<|cn false cr 113<|af (cy C0)<|ci<|bB<|iJ (r:=cr) (ys:=([]:List bl)) (xs:=[]) tW lN I I I I I trivial I fun l1 c=>bE I<|bE I<|dN tW I<|bE I<|af (me (M I) (M I))<|cI h fun y q_y h=>af (lu tW lN I (M I) (M I) q_y)<|cI h fun x q_x h=>fN lN I I I I tW I I (M I) (M I) q_x fun l2 c1=>bm I<|so h▸pp I I
def VC l most{R}(h:j4 l most=some R):dn aO 31 [iL (cr) l,ba most] (iL (cr) R):=(SG _ _ h).spec

def HU c{R}(h:sS c=some R):dn aO 10 [K bX c] (K bX R):=by
 refine eu Tryz.func10 I<|bB<|ea I<|aW rN pE I fun b=>ci<|bB<|cK tM lC Dq I<|PJ h Zc (SI _ _) (eS I) fun r h l c1=>af (cd (y:=jo (⟨r⟩:aq) (Y l c1 r.length)) rN WH zM (⟨_,_,_,_,_,I,Dx,I,(J5 (M I)),I⟩))<|cn false cD 110<|aW (r:=gD) (x:=jo G1 (Y none 0 (([]:List bp).length))) rN zM I fun b1=>eA (r' :=gD) rN I (eJ I) I (M I) (M I)<|cE<|nT<|ci<|bJ ?_;refine bt 0 tM I<|af (fc Dq pc (.head _) I (M I))<|af (fh vP (.tail _ (.head _)) (M I))<|af (bU hI)<|ci<|av<|iz (.tail _ (.head _)) fun hN=>bY<|gS<|gS<|iY ?_;refine aR (gM (aA:=fun ls i out=>(r.drop i=ls)/\kN ls i out=some R) (Of:=fun _ i out=>[bx bX 24 b G1,bx gD 24 b1 (jo out (Y l c1 out.Tables.length)),d7 cD 110 l c1 out.Tables]) (Gf:=fun _ i out=>[(2,Q (ai b 0)),(3,Q (ai b1 0)),(11,ve l c1 r),(12,ni r),(13,ba (i:Int))]) (fun i out h=>?_) (fun e tl ih i out h=>?_) r 0 ({(⟨r⟩:aq)with Tables:=r}:aq) ⟨I,h⟩) (bI I)
 ·obtain⟨V,h⟩:=h
  refine eQ V I<|aJ<|bB<|ib<|lb<|af (n4 (q:=bX) (y:=out) rN I I I I (.tail _ (.tail _ (.head _))) (fun _ _ _ ho h=>Ay (nN ho (.head _)) h) (M I))<|cE<|cm rN am I<|ie<|dl 2 I ?_;exact aK<|aK<|so h▸sC I rN I I I
 ·obtain⟨V,h⟩:=h
  refine eP V I<|aM<|av<|aL I<|cI h fun e1 q_e1 h=>af (kh vP mq (.tail _ (.tail _ (.head _))) (M I) (M I) q_e1 (zm V))<|cI h fun e2 q_e2 h=>af (cS (r:=cD) (i:=(i:Int)) (foff:=0) mq I I bS I (.tail _ (.tail _ (.head _))) q_e2 (M I))<|aW mq zN I fun b2=>lj I<|cm mq am I<|aX 5 I<|bN ?_;refine aJ<|cI h fun r1 q_r1 h=>cI h fun r2 q_r2 h=>cI h fun st q_st h=>?_
  refine eH 15 [tc (Q (ai b1 0)),tc (ve l c1 out.Tables),tc (ba (i:Int)),tc (Q (ai b1 0)),tc (ve l c1 out.Tables),tc (ba (i:Int)),tc (bn (ek cr) e2.Columns),tc (iL (cr) e2.Columns),tc (iL (cr) r1),tc (bn VV e2.Keys),tc (yC e2.Keys),tc (yC r2),tc (Q (cJ l ((i:Int).toNat*3+0))),tc (Q (cJ l ((i:Int).toNat*3+1))),tc (tz)] [false,false,false,false,false,false,false,false,false,false,false,false,false,false,true] [fun _=>[bx bX 24 b G1,bx gD 24 b1 (jo out (Y l c1 out.Tables.length)),d7 cD 110 l c1 out.Tables],fun sg=>[d7 cD 110 l c1 st,bx bX 24 b G1,bx gD 24 b1 (jo out (Y l c1 out.Tables.length))]] I mixed I I I I I
   ⟨⟨[⟨3,fun _=>Q (ai b1 0),none⟩],_,0,0,I,⟨(fun _=>I),J⟩,I,I,I,I,I,fun _ sg _ _=>aC I (mW 0 tM I I I)⟩,
   ⟨⟨[⟨18,fun _=>Q (ai b1 0),some 0⟩],_,0,0,I,⟨(fun _=>I),J⟩,I,I,I,I,I,eD (fun sg=>aC I (fc Dq pc (.tail _ (.head _)) I (M I)))⟩,
   ⟨⟨[⟨4,fun _=>K aG (i:Int),none⟩],_,0,0,I,⟨(fun _=>I),J⟩,I,I,I,I,I,fun _ sg _ _=>aC I (jz I)⟩,
   ⟨⟨[⟨3,fun _=>Q (ai b1 0),none⟩],_,0,1,I,⟨(fun _=>I),J⟩,I,I,I,I,I,fun _ sg _ _=>aC I (mW 0 tM I I I)⟩,
   ⟨⟨[⟨21,fun _=>Q (ai b1 0),some 3⟩],_,0,1,I,⟨(fun _=>I),J⟩,I,I,I,I,I,pF (fun sg=>aC I (fc Dq pc (.tail _ (.head _)) I (M I))) (eD (fun sg=>aC I (fc Dq pc (.tail _ (.tail _ (.head _))) I (M I))))⟩,
   ⟨⟨[⟨4,fun _=>K aG (i:Int),none⟩],_,0,1,I,⟨(fun _=>I),J⟩,I,I,I,I,I,fun _ sg _ _=>aC I (jz I)⟩,
   ⟨⟨[⟨5,fun _=>bn cD e2,none⟩],_,0,0,I,⟨(fun _=>I),J⟩,I,I,I,I,I,fun _ sg _ _=>aC I (yb ro mJ I I)⟩,
   ⟨⟨[⟨24,fun _=>bn (ek cr) e2.Columns,some 6⟩],_,0,0,I,⟨(fun _=>I),J⟩,I,I,I,I,I,fun _ sg _ _=>aC I (ur zQ I I)⟩,
   ⟨⟨[⟨25,fun _=>K (ek cr) e2.Columns,some 7⟩],_,0,0,I,⟨(fun _=>I),J⟩,I,I,I,I,I,fun _ sg _ _=>aC I (bL Zb (VC _ _ q_r1) ⟨(M I),hI,J⟩)⟩,
   ⟨⟨[⟨5,fun _=>bn cD e2,none⟩],_,0,0,I,⟨(fun _=>I),J⟩,I,I,I,I,I,fun _ sg _ _=>aC I (yb C2 zf I I)⟩,
   ⟨⟨[⟨27,fun _=>bn Ct e2.Keys,some 9⟩],_,0,0,I,⟨(fun _=>I),J⟩,I,I,I,I,I,fun _ sg _ _=>aC I (ur kc I I)⟩,
   ⟨⟨[⟨28,fun _=>K Ct e2.Keys,some 10⟩],_,0,0,I,⟨(fun _=>I),J⟩,I,I,I,I,I,fun _ sg _ _=>aC I (bL Zf (VG _ _ q_r2) ⟨(M I),hI,J⟩)⟩,
   ⟨⟨[⟨19,fun _=>Q (Y l c1 out.Tables.length),some 1⟩,⟨20,fun _=>K aG (i:Int),some 2⟩],_,0,0,I,⟨(fun _=>I),(fun _=>I),J⟩,I,I,I,I,I,eD (fun sg=>aC I (bK vP mq (.tail _ (.tail _ (.head _))) (M I) (M I) q_e2))⟩,
   ⟨⟨[⟨30,fun _=>Q (cJ l ((i:Int).toNat*3+0)),some 12⟩],_,0,0,I,⟨(fun _=>I),J⟩,I,I,I,I,I,eD (fun sg=>aC I (cC (o:=(i:Int).toNat*3+0) (n:=(i:Int).toNat*3+1) ro I (.tail _ (.tail _ (.head _))) q_e2 (M I) I))⟩,
   ⟨⟨[⟨31,fun _=>Q (cJ l ((i:Int).toNat*3+1)),some 13⟩,⟨26,fun _=>K (ek cr) r1,some 8⟩],_,I,⟨(fun _=>I),(fun _=>I),J⟩,I,I,I,fun sg=>bw I (EffOK.fr2 (zl (r:=cD) (i:=(i:Int)) (foff:=1) zQ I yU I q_e2 (so q_st) (M I) (M I)))⟩,
   J⟩⟩⟩⟩⟩⟩⟩⟩⟩⟩⟩⟩⟩⟩⟩ (fun sg=>?_)
  refine(show RG _ _ _ _ [_,_,_] _ from ?_);refine jM (O' :=[d7 cD 110 l c1 st,bx bX 24 b G1,bx gD 24 b1 (jo out (Y l c1 st.length))]) (by first|(rw [dW (so q_st)];done)|(rw [dW (so q_st)];exact I)|exact I)<|cI h fun e3 q_e3 h=>af (bK vP mq (.head _) (M I) (M I) q_e3 ((dW (so q_st)).symm))<|af (cC (o:=(i:Int).toNat*3+0) (n:=(i:Int).toNat*3+2) C2 I (.head _) q_e3 (M I) I)<|cI h fun st1 q_st1 h=>lY kc I Kv I q_e3 (so q_st1) (M I) (M I)<|jM (O' :=[d7 cD 110 l c1 st1,bx bX 24 b G1,bx gD 24 b1 (jo out (Y l c1 st1.length))]) (by first|(rw [dW (so q_st1)];done)|(rw [dW (so q_st1)];exact I)|exact I)<|bN<|eB V hN I<|gT<|gT ?_;exact bu (aR (ih (i+1) ({out with Tables:=st1}:aq) ⟨ee V,h⟩) (bI I))

def Ni l most{R}(h:mH l most=some R):j8 aO 32 [iL (aB) l,ba most] false aB 55 R:=by
 exact j8.of Tryz.func32 I I I fun w0 S0=>bB<|cn false aB 55<|af (cy C0)<|ci<|bB<|iJ (r:=aB) (ys:=([]:List al)) (xs:=[]) sF np I I I I I trivial I fun l1 c=>bE I<|bE I<|dN sF I<|bE I<|af (me (M I) (M I))<|cI h fun y q_y h=>af (lu sF np I (M I) (M I) q_y)<|cI h fun x q_x h=>fN np I I I I sF I I (M I) (M I) q_x fun l2 c1=>bm I<|so h▸pp I I
def Nh l most{R}(h:mg l most=some R):j8 aO 33 [iL (d5) l,ba most] false d5 57 R:=by
 exact j8.of Tryz.func33 I I I fun w0 S0=>bB<|cn false d5 57<|af (cy C0)<|ci<|bB<|iJ (r:=d5) (ys:=([]:List lT)) (xs:=[]) AQ yP I I I I I trivial I fun l1 c=>bE I<|bE I<|dN AQ I<|bE I<|af (me (M I) (M I))<|cI h fun y q_y h=>af (lu AQ yP I (M I) (M I) q_y)<|cI h fun x q_x h=>fN yP I I I I AQ I I (M I) (M I) q_x fun l2 c1=>bm I<|so h▸pp I I
def VB l most{R}(h:mg l most=some R):dn aO 33 [iL (d5) l,ba most] (iL (d5) R):=(Nh _ _ h).spec

def Ng l most{R}(h:n8 l most=some R):j8 aO 34 [iL (cF) l,ba most] false cF 88 R:=by
 exact j8.of Tryz.func34 I I I fun w0 S0=>bB<|cn false cF 88<|af (cy C0)<|ci<|bB<|iJ (r:=cF) (ys:=([]:List eh)) (xs:=[]) sE oP I I I I I trivial I fun l1 c=>bE I<|bE I<|dN sE I<|bE I<|af (me (M I) (M I))<|cI h fun y q_y h=>af (lu sE oP I (M I) (M I) q_y)<|cI h fun x q_x h=>fN oP I I I I sE I I (M I) (M I) q_x fun l2 c1=>bm I<|so h▸pp I I
def Nf l most{R}(h:n7 l most=some R):j8 aO 35 [iL (dm) l,ba most] false dm 86 R:=by
 exact j8.of Tryz.func35 I I I fun w0 S0=>bB<|cn false dm 86<|af (cy C0)<|ci<|bB<|iJ (r:=dm) (ys:=([]:List kw)) (xs:=[]) xM uv I I I I I trivial I fun l1 c=>bE I<|bE I<|dN xM I<|bE I<|af (me (M I) (M I))<|cI h fun y q_y h=>af (lu xM uv I (M I) (M I) q_y)<|cI h fun x q_x h=>fN uv I I I I xM I I (M I) (M I) q_x fun l2 c1=>bm I<|so h▸pp I I
def SF l most{R}(h:lB l most=some R):j8 aO 36 [iL (d8) l,ba most] false d8 91 R:=by
 exact j8.of Tryz.func36 I I I fun w0 S0=>bB<|cn false d8 91<|af (cy C0)<|ci<|bB<|iJ (r:=d8) (ys:=([]:List ig)) (xs:=[]) C8 AW I I I I I trivial I fun l1 c=>bE I<|bE I<|dN C8 I<|bE I<|af (me (M I) (M I))<|cI h fun y q_y h=>af (lu C8 AW I (M I) (M I) q_y)<|cI h fun x q_x h=>fN AW I I I I C8 I I (M I) (M I) q_x fun l2 c1=>bm I<|so h▸pp I I
def Q5 l most{R}(h:lB l most=some R):dn aO 36 [iL (d8) l,ba most] (iL (d8) R):=(SF _ _ h).spec

def SD l most{R}(h:n6 l most=some R):j8 aO 82 [iL (cB) l,ba most] false cB 162 R:=by
 exact j8.of Tryz.func82 I I I fun w0 S0=>bB<|cn false cB 162<|af (cy C0)<|ci<|bB<|iJ (r:=cB) (ys:=([]:List cj)) (xs:=[]) tU pu I I I I I trivial I fun l1 c=>bE I<|bE I<|dN tU I<|bE I<|af (me (M I) (M I))<|cI h fun y q_y h=>af (lu tU pu I (M I) (M I) q_y)<|cI h fun x q_x h=>fN pu I I I I tU I I (M I) (M I) q_x fun l2 c1=>bm I<|so h▸pp I I
def wD t{R}(h:mG t=some R):dn aO 37 [K aY t] (K aY R):=by
 refine eu Tryz.func37 I<|bB<|ea I<|aW jQ qV I fun b=>ci<|bB<|cK pR kQ AX I<|PJ h YU (SD _ _) (eS I) fun r h l c=>af (cd (y:=lV (⟨r⟩:ce) (Y l c r.length)) jQ WE FP (⟨_,_,_,_,_,I,IE,I,(J5 (M I)),I⟩))<|cn false cB 162<|aW (r:=jU) (x:=lV pt (Y none 0 (([]:List cj).length))) jQ FP I fun b1=>eA (r' :=jU) jQ I (eJ I) I (M I) (M I)<|cE<|nT<|ci<|bJ ?_;refine bt 0 pR I<|af (fc AX Cf (.head _) I (M I))<|af (fh tU (.tail _ (.head _)) (M I))<|af (bU hI)<|ci<|av<|iz (.tail _ (.head _)) fun hN=>bY<|gS<|gS<|iY ?_;refine aR (gM (aA:=fun ls i out=>(r.drop i=ls)/\kO ls i out=some R) (Of:=fun _ i out=>[bx aY 52 b pt,bx jU 52 b1 (lV out (Y l c out.Nodes.length)),d7 cB 162 l c out.Nodes]) (Gf:=fun _ i out=>[(2,Q (ai b 0)),(3,Q (ai b1 0)),(12,ni r),(13,ba (i:Int))]) (fun i out h=>?_) (fun e tl ih i out h=>?_) r 0 ({(⟨r⟩:ce)with Nodes:=r}:ce) ⟨I,h⟩) (bI I)
 ·obtain⟨V,h⟩:=h
  refine eQ V I<|aJ<|bB<|ib<|lb<|af (n4 (q:=aY) (y:=out) jQ I I I I (.tail _ (.tail _ (.head _))) (fun _ _ _ ho h=>EL (nN ho (.head _)) h) (M I))<|cE<|cm jQ am I<|ie<|dl 2 I ?_;exact aK<|aK<|so h▸sC I jQ I I I
 ·obtain⟨V,h⟩:=h
  refine eP V I<|aM<|av<|aL I<|bH I<|bB<|bt 0 pR I<|af (fc AX Cf (.tail _ (.head _)) I (M I))<|bE I<|cI h fun e1 q_e1 h=>?_;refine af (bK tU pu (.tail _ (.tail _ (.head _))) (M I) (M I) q_e1)<|bH I<|cI h fun y q_y h=>cI h fun y1 q_y1 h=>cI h fun y2 q_y2 h=>cI h fun st q_st h=>cI h fun e2 q_e2 h=>cI h fun st1 q_st1 h=>?_
  refine eH 45 [tc (Q (cJ l ((i:Int).toNat*9+0))),tc (Q (cJ l ((i:Int).toNat*9+0))),tc (Q (cJ l ((i:Int).toNat*9+0))),tc (Q (cJ l ((i:Int).toNat*9+0))),tc (Q (cJ l ((i:Int).toNat*9+0))),tc (Q (cJ l ((i:Int).toNat*9+3))),tc (Q (cJ l ((i:Int).toNat*9+6))),tc (K rS e1.Value.S),tc (Q (cJ l ((i:Int).toNat*9+0))),tc (Q (cJ l ((i:Int).toNat*9+0))),tc (Q (cJ l ((i:Int).toNat*9+3))),tc (Q (cJ l ((i:Int).toNat*9+6))),tc (K rS e1.Value.S),tc (ni e1.Value.S),tc (ba (min (e1.Value.S.length:Int) (60:Int))),tc (K rS y),tc (Q (cJ l ((i:Int).toNat*9+0))),tc (Q (cJ l ((i:Int).toNat*9+0))),tc (Q (cJ l ((i:Int).toNat*9+7))),tc (K rS e1.Table),tc (Q (cJ l ((i:Int).toNat*9+0))),tc (Q (cJ l ((i:Int).toNat*9+0))),tc (Q (cJ l ((i:Int).toNat*9+7))),tc (K rS e1.Table),tc (ni e1.Table),tc (ba (min (e1.Table.length:Int) (40:Int))),tc (K rS y1),tc (Q (cJ l ((i:Int).toNat*9+0))),tc (Q (cJ l ((i:Int).toNat*9+0))),tc (Q (cJ l ((i:Int).toNat*9+8))),tc (K rS e1.Name),tc (Q (cJ l ((i:Int).toNat*9+0))),tc (Q (cJ l ((i:Int).toNat*9+0))),tc (Q (cJ l ((i:Int).toNat*9+8))),tc (K rS e1.Name),tc (ni e1.Name),tc (ba (min (e1.Name.length:Int) (40:Int))),tc (K rS y2),tc (Q (cJ l ((i:Int).toNat*9+0))),tc (Q (cJ l ((i:Int).toNat*9+3))),tc (Q (cJ l ((i:Int).toNat*9+6))),tc (tz),tc (Q (cJ l ((i:Int).toNat*9+0))),tc (Q (cJ l ((i:Int).toNat*9+7))),tc (tz)] [false,false,false,false,false,false,false,false,false,false,false,false,false,false,false,false,false,false,false,false,false,false,false,false,false,false,false,false,false,false,false,false,false,false,false,false,false,false,false,false,false,true,false,false,true] [fun _=>[bx aY 52 b pt,bx jU 52 b1 (lV out (Y l c out.Nodes.length)),d7 cB 162 l c out.Nodes],fun sg=>[d7 cB 162 l c st,bx aY 52 b pt,bx jU 52 b1 (lV out (Y l c out.Nodes.length))],fun sg=>[d7 cB 162 l c st1,bx aY 52 b pt,bx jU 52 b1 (lV out (Y l c out.Nodes.length))]] I mixed I I I I I
   ⟨⟨[⟨5,fun _=>Q (cJ l ((i:Int).toNat*9+0)),none⟩],_,0,0,I,⟨(fun _=>I),J⟩,I,I,I,I,I,fun _ sg _ _=>aC I (jz I)⟩,
   ⟨⟨[⟨5,fun _=>Q (cJ l ((i:Int).toNat*9+0)),none⟩],_,0,1,I,⟨(fun _=>I),J⟩,I,I,I,I,I,fun _ sg _ _=>aC I (jz I)⟩,
   ⟨⟨[⟨5,fun _=>Q (cJ l ((i:Int).toNat*9+0)),none⟩],_,0,2,I,⟨(fun _=>I),J⟩,I,I,I,I,I,fun _ sg _ _=>aC I (jz I)⟩,
   ⟨⟨[⟨5,fun _=>Q (cJ l ((i:Int).toNat*9+0)),none⟩],_,0,0,I,⟨(fun _=>I),J⟩,I,I,I,I,I,fun _ sg _ _=>aC I (jz I)⟩,
   ⟨⟨[⟨23,fun _=>Q (cJ l ((i:Int).toNat*9+0)),some 3⟩],_,0,0,I,⟨(fun _=>I),J⟩,I,I,I,I,I,eD (fun sg=>aC I (rl (.tail _ (.tail _ (.head _))) q_e1 (M I)))⟩,
   ⟨⟨[⟨24,fun _=>Q (cJ l ((i:Int).toNat*9+0)),some 4⟩],_,0,0,I,⟨(fun _=>I),J⟩,I,I,I,I,I,eD (fun sg=>aC I (cC (o:=(i:Int).toNat*9+0) (n:=(i:Int).toNat*9+3) ta I (.tail _ (.tail _ (.head _))) q_e1 (M I) I))⟩,
   ⟨⟨[⟨25,fun _=>Q (cJ l ((i:Int).toNat*9+3)),some 5⟩],_,0,0,I,⟨(fun _=>I),J⟩,I,I,I,I,I,eD (fun sg=>aC I (cC (o:=(i:Int).toNat*9+3) (n:=(i:Int).toNat*9+6) xr I (.tail _ (.tail _ (.head _))) q_e1 (M I) I))⟩,
   ⟨⟨[⟨26,fun _=>Q (cJ l ((i:Int).toNat*9+6)),some 6⟩],_,0,0,I,⟨(fun _=>I),J⟩,I,I,I,I,I,eD (fun sg=>aC I (cS (r:=cB) (i:=(i:Int)) (foff:=6) oH I I (fz ow si) I (.tail _ (.tail _ (.head _))) q_e1 (M I)))⟩,
   ⟨⟨[⟨5,fun _=>Q (cJ l ((i:Int).toNat*9+0)),none⟩],_,0,0,I,⟨(fun _=>I),J⟩,I,I,I,I,I,fun _ sg _ _=>aC I (jz I)⟩,
   ⟨⟨[⟨28,fun _=>Q (cJ l ((i:Int).toNat*9+0)),some 8⟩],_,0,0,I,⟨(fun _=>I),J⟩,I,I,I,I,I,eD (fun sg=>aC I (rl (.tail _ (.tail _ (.head _))) q_e1 (M I)))⟩,
   ⟨⟨[⟨29,fun _=>Q (cJ l ((i:Int).toNat*9+0)),some 9⟩],_,0,0,I,⟨(fun _=>I),J⟩,I,I,I,I,I,eD (fun sg=>aC I (cC (o:=(i:Int).toNat*9+0) (n:=(i:Int).toNat*9+3) ta I (.tail _ (.tail _ (.head _))) q_e1 (M I) I))⟩,
   ⟨⟨[⟨30,fun _=>Q (cJ l ((i:Int).toNat*9+3)),some 10⟩],_,0,0,I,⟨(fun _=>I),J⟩,I,I,I,I,I,eD (fun sg=>aC I (cC (o:=(i:Int).toNat*9+3) (n:=(i:Int).toNat*9+6) xr I (.tail _ (.tail _ (.head _))) q_e1 (M I) I))⟩,
   ⟨⟨[⟨31,fun _=>Q (cJ l ((i:Int).toNat*9+6)),some 11⟩],_,0,0,I,⟨(fun _=>I),J⟩,I,I,I,I,I,eD (fun sg=>aC I (cS (r:=cB) (i:=(i:Int)) (foff:=6) oH I I (fz ow si) I (.tail _ (.tail _ (.head _))) q_e1 (M I)))⟩,
   ⟨⟨[⟨32,fun _=>K rS e1.Value.S,some 12⟩],_,0,0,I,⟨(fun _=>I),J⟩,I,I,I,I,I,fun _ sg _ _=>aC I (xi ik (M I))⟩,
   ⟨⟨[⟨33,fun _=>K aG (e1.Value.S.length:Int),some 13⟩],_,0,0,I,⟨(fun _=>I),J⟩,I,I,I,I,I,fun _ sg _ _=>aC I (me (M I) hI)⟩,
   ⟨⟨[⟨27,fun _=>K rS e1.Value.S,some 7⟩,⟨34,fun _=>K aG (min (e1.Value.S.length:Int) (60:Int)),some 14⟩],_,0,0,I,⟨(fun _=>I),(fun _=>I),J⟩,I,I,I,I,I,fun _ sg _ _=>aC I (Bh ik (M I) (M I) q_y)⟩,
   ⟨⟨[⟨5,fun _=>Q (cJ l ((i:Int).toNat*9+0)),none⟩],_,0,0,I,⟨(fun _=>I),J⟩,I,I,I,I,I,fun _ sg _ _=>aC I (jz I)⟩,
   ⟨⟨[⟨36,fun _=>Q (cJ l ((i:Int).toNat*9+0)),some 16⟩],_,0,0,I,⟨(fun _=>I),J⟩,I,I,I,I,I,eD (fun sg=>aC I (rl (.tail _ (.tail _ (.head _))) q_e1 (M I)))⟩,
   ⟨⟨[⟨37,fun _=>Q (cJ l ((i:Int).toNat*9+0)),some 17⟩],_,0,0,I,⟨(fun _=>I),J⟩,I,I,I,I,I,eD (fun sg=>aC I (cC (o:=(i:Int).toNat*9+0) (n:=(i:Int).toNat*9+7) xp I (.tail _ (.tail _ (.head _))) q_e1 (M I) I))⟩,
   ⟨⟨[⟨38,fun _=>Q (cJ l ((i:Int).toNat*9+7)),some 18⟩],_,0,0,I,⟨(fun _=>I),J⟩,I,I,I,I,I,eD (fun sg=>aC I (cS (r:=cB) (i:=(i:Int)) (foff:=7) oH I I uh I (.tail _ (.tail _ (.head _))) q_e1 (M I)))⟩,
   ⟨⟨[⟨5,fun _=>Q (cJ l ((i:Int).toNat*9+0)),none⟩],_,0,0,I,⟨(fun _=>I),J⟩,I,I,I,I,I,fun _ sg _ _=>aC I (jz I)⟩,
   ⟨⟨[⟨40,fun _=>Q (cJ l ((i:Int).toNat*9+0)),some 20⟩],_,0,0,I,⟨(fun _=>I),J⟩,I,I,I,I,I,eD (fun sg=>aC I (rl (.tail _ (.tail _ (.head _))) q_e1 (M I)))⟩,
   ⟨⟨[⟨41,fun _=>Q (cJ l ((i:Int).toNat*9+0)),some 21⟩],_,0,0,I,⟨(fun _=>I),J⟩,I,I,I,I,I,eD (fun sg=>aC I (cC (o:=(i:Int).toNat*9+0) (n:=(i:Int).toNat*9+7) xp I (.tail _ (.tail _ (.head _))) q_e1 (M I) I))⟩,
   ⟨⟨[⟨42,fun _=>Q (cJ l ((i:Int).toNat*9+7)),some 22⟩],_,0,0,I,⟨(fun _=>I),J⟩,I,I,I,I,I,eD (fun sg=>aC I (cS (r:=cB) (i:=(i:Int)) (foff:=7) oH I I uh I (.tail _ (.tail _ (.head _))) q_e1 (M I)))⟩,
   ⟨⟨[⟨43,fun _=>K rS e1.Table,some 23⟩],_,0,1,I,⟨(fun _=>I),J⟩,I,I,I,I,I,fun _ sg _ _=>aC I (xi ik (M I))⟩,
   ⟨⟨[⟨44,fun _=>K aG (e1.Table.length:Int),some 24⟩],_,0,1,I,⟨(fun _=>I),J⟩,I,I,I,I,I,fun _ sg _ _=>aC I (me (M I) hI)⟩,
   ⟨⟨[⟨39,fun _=>K rS e1.Table,some 19⟩,⟨45,fun _=>K aG (min (e1.Table.length:Int) (40:Int)),some 25⟩],_,0,1,I,⟨(fun _=>I),(fun _=>I),J⟩,I,I,I,I,I,fun _ sg _ _=>aC I (Bh ik (M I) (M I) q_y1)⟩,
   ⟨⟨[⟨5,fun _=>Q (cJ l ((i:Int).toNat*9+0)),none⟩],_,0,0,I,⟨(fun _=>I),J⟩,I,I,I,I,I,fun _ sg _ _=>aC I (jz I)⟩,
   ⟨⟨[⟨47,fun _=>Q (cJ l ((i:Int).toNat*9+0)),some 27⟩],_,0,0,I,⟨(fun _=>I),J⟩,I,I,I,I,I,eD (fun sg=>aC I (rl (.tail _ (.tail _ (.head _))) q_e1 (M I)))⟩,
   ⟨⟨[⟨48,fun _=>Q (cJ l ((i:Int).toNat*9+0)),some 28⟩],_,0,0,I,⟨(fun _=>I),J⟩,I,I,I,I,I,eD (fun sg=>aC I (cC (o:=(i:Int).toNat*9+0) (n:=(i:Int).toNat*9+8) uU I (.tail _ (.tail _ (.head _))) q_e1 (M I) I))⟩,
   ⟨⟨[⟨49,fun _=>Q (cJ l ((i:Int).toNat*9+8)),some 29⟩],_,0,0,I,⟨(fun _=>I),J⟩,I,I,I,I,I,eD (fun sg=>aC I (cS (r:=cB) (i:=(i:Int)) (foff:=8) oH I I rz I (.tail _ (.tail _ (.head _))) q_e1 (M I)))⟩,
   ⟨⟨[⟨5,fun _=>Q (cJ l ((i:Int).toNat*9+0)),none⟩],_,0,0,I,⟨(fun _=>I),J⟩,I,I,I,I,I,fun _ sg _ _=>aC I (jz I)⟩,
   ⟨⟨[⟨51,fun _=>Q (cJ l ((i:Int).toNat*9+0)),some 31⟩],_,0,0,I,⟨(fun _=>I),J⟩,I,I,I,I,I,eD (fun sg=>aC I (rl (.tail _ (.tail _ (.head _))) q_e1 (M I)))⟩,
   ⟨⟨[⟨52,fun _=>Q (cJ l ((i:Int).toNat*9+0)),some 32⟩],_,0,0,I,⟨(fun _=>I),J⟩,I,I,I,I,I,eD (fun sg=>aC I (cC (o:=(i:Int).toNat*9+0) (n:=(i:Int).toNat*9+8) uU I (.tail _ (.tail _ (.head _))) q_e1 (M I) I))⟩,
   ⟨⟨[⟨53,fun _=>Q (cJ l ((i:Int).toNat*9+8)),some 33⟩],_,0,0,I,⟨(fun _=>I),J⟩,I,I,I,I,I,eD (fun sg=>aC I (cS (r:=cB) (i:=(i:Int)) (foff:=8) oH I I rz I (.tail _ (.tail _ (.head _))) q_e1 (M I)))⟩,
   ⟨⟨[⟨54,fun _=>K rS e1.Name,some 34⟩],_,0,2,I,⟨(fun _=>I),J⟩,I,I,I,I,I,fun _ sg _ _=>aC I (xi ik (M I))⟩,
   ⟨⟨[⟨55,fun _=>K aG (e1.Name.length:Int),some 35⟩],_,0,2,I,⟨(fun _=>I),J⟩,I,I,I,I,I,fun _ sg _ _=>aC I (me (M I) hI)⟩,
   ⟨⟨[⟨50,fun _=>K rS e1.Name,some 30⟩,⟨56,fun _=>K aG (min (e1.Name.length:Int) (40:Int)),some 36⟩],_,0,2,I,⟨(fun _=>I),(fun _=>I),J⟩,I,I,I,I,I,fun _ sg _ _=>aC I (Bh ik (M I) (M I) q_y2)⟩,
   ⟨⟨[⟨20,fun _=>Q (cJ l ((i:Int).toNat*9+0)),some 0⟩],_,0,0,I,⟨(fun _=>I),J⟩,I,I,I,I,I,eD (fun sg=>aC I (rl (.tail _ (.tail _ (.head _))) q_e1 (M I)))⟩,
   ⟨⟨[⟨58,fun _=>Q (cJ l ((i:Int).toNat*9+0)),some 38⟩],_,0,0,I,⟨(fun _=>I),J⟩,I,I,I,I,I,eD (fun sg=>aC I (cC (o:=(i:Int).toNat*9+0) (n:=(i:Int).toNat*9+3) ta I (.tail _ (.tail _ (.head _))) q_e1 (M I) I))⟩,
   ⟨⟨[⟨59,fun _=>Q (cJ l ((i:Int).toNat*9+3)),some 39⟩],_,0,0,I,⟨(fun _=>I),J⟩,I,I,I,I,I,eD (fun sg=>aC I (cC (o:=(i:Int).toNat*9+3) (n:=(i:Int).toNat*9+6) xr I (.tail _ (.tail _ (.head _))) q_e1 (M I) I))⟩,
   ⟨⟨[⟨60,fun _=>Q (cJ l ((i:Int).toNat*9+6)),some 40⟩,⟨35,fun _=>K rS y,some 15⟩],_,I,⟨(fun _=>I),(fun _=>I),J⟩,I,I,I,fun sg=>bw I (EffOK.fr2 (zl (r:=cB) (i:=(i:Int)) (foff:=6) oH I (kG ow N9 DB) I q_e1 (so q_st) (M I) (M I)))⟩,
   ⟨⟨[⟨21,fun _=>Q (cJ l ((i:Int).toNat*9+0)),some 1⟩],_,1,1,I,⟨(fun _=>I),J⟩,I,I,I,I,I,eD (fun sg=>aC I (rl (.head _) q_e2 (M I)))⟩,
   ⟨⟨[⟨61,fun _=>Q (cJ l ((i:Int).toNat*9+0)),some 42⟩],_,1,1,I,⟨(fun _=>I),J⟩,I,I,I,I,I,eD (fun sg=>aC I (cC (o:=(i:Int).toNat*9+0) (n:=(i:Int).toNat*9+7) xp I (.head _) q_e2 (M I) I))⟩,
   ⟨⟨[⟨62,fun _=>Q (cJ l ((i:Int).toNat*9+7)),some 43⟩,⟨46,fun _=>K rS y1,some 26⟩],_,I,⟨(fun _=>I),(fun _=>I),J⟩,I,I,I,fun sg=>bw I (zl (r:=cB) (i:=(i:Int)) (foff:=7) oH I N8 I q_e2 (so q_st1) (M I) (M I))⟩,
   J⟩⟩⟩⟩⟩⟩⟩⟩⟩⟩⟩⟩⟩⟩⟩⟩⟩⟩⟩⟩⟩⟩⟩⟩⟩⟩⟩⟩⟩⟩⟩⟩⟩⟩⟩⟩⟩⟩⟩⟩⟩⟩⟩⟩⟩ (fun sg=>?_)
  refine(show RG _ _ _ _ [_,_,_] _ from ?_);refine jM (O' :=[d7 cB 162 l c st1,bx aY 52 b pt,bx jU 52 b1 (lV out (Y l c st1.length))]) (by first|(rw [dW (so q_st1),dW (so q_st)];done)|(rw [dW (so q_st1),dW (so q_st)];exact I)|exact I)<|cI h fun e3 q_e3 h=>af (rl (.head _) q_e3 (M I))<|af (cC (o:=(i:Int).toNat*9+0) (n:=(i:Int).toNat*9+8) uU I (.head _) q_e3 (M I) I)<|cI h fun st2 q_st2 h=>lY oH I FZ I q_e3 (so q_st2) (M I) (M I)<|jM (O' :=[d7 cB 162 l c st2,bx aY 52 b pt,bx jU 52 b1 (lV out (Y l c st2.length))]) (by first|(rw [dW (so q_st2)];done)|(rw [dW (so q_st2)];exact I)|exact I)<|bN<|eB V hN I<|gT<|gT ?_;exact bu (aR (ih (i+1) ({out with Nodes:=st2}:ce) ⟨ee V,h⟩) (bI I))

def EG q{R}(h:pO q=some R):dn aO 11 [K bd q] (K bd R):=by
 refine eu Tryz.func11 I<|bB<|AH (M I) I fun b=>aW oQ rM I fun b1=>ci<|aM<|cI h fun r q_r h=>cI h fun r1 q_r1 h=>?_
 refine eH 7 [tc (Q (ai b 0)),tc (iL (aB) q.Selects),([2],fun s=>Q (Y ((s.getD 0 nj).h 0).1 ((s.getD 0 nj).h 0).2 r.length)),tc (Q (ai b 1)),tc (iL (d5) q.Keys),tc (iL (d5) r1),tc (Q (ai b 0))] [false,false,true,false,false,false,false] [fun _=>[bx bd 31 b1 yJ,bx bd 31 b q],fun sg=>[d7 aB 55 ((sg 2).h 0).1 ((sg 2).h 0).2 r,bx bd 31 b1 yJ,bx bd 31 b q]] I mixed I I I I I
  ⟨⟨[⟨1,fun _=>Q (ai b 0),none⟩],_,0,0,I,⟨(fun _=>I),J⟩,I,I,I,I,I,fun _ sg _ _=>aC I (mW 0 pe I I I)⟩,
  ⟨⟨[⟨9,fun _=>Q (ai b 0),some 0⟩],_,0,0,I,⟨(fun _=>I),J⟩,I,I,I,I,I,eD (fun sg=>aC I (aV yQ I I oa (.tail _ (.head _)) (M I)))⟩,
  ⟨⟨[⟨10,fun _=>K (ek aB) q.Selects,some 1⟩],_,I,⟨(fun _=>I),J⟩,I,I,I,fun sg=>bw I (pV (xs:=[.tmp 10,.const (.int .i64 (4))]) (ts:=[K (ek aB) q.Selects,K aG (4:Int)]) Xj (Ni _ _ q_r) ⟨(M I),hI,J⟩)⟩,
  ⟨⟨[⟨1,fun _=>Q (ai b 0),none⟩],_,0,1,I,⟨(fun _=>I),J⟩,I,I,I,I,I,fun _ sg _ _=>aC I (mW 1 tL I I I)⟩,
  ⟨⟨[⟨12,fun _=>Q (ai b 1),some 3⟩],_,0,1,I,⟨(fun _=>I),J⟩,I,I,I,I,I,pF (fun sg=>aC I (aV CA I I n9 (.tail _ (.head _)) (M I))) (eD (fun sg=>aC I (aV CA I I n9 (.tail _ (.tail _ (.head _))) (M I))))⟩,
  ⟨⟨[⟨13,fun _=>K (ek d5) q.Keys,some 4⟩],_,1,1,I,⟨(fun _=>I),J⟩,I,I,I,I,I,fun _ sg _ _=>aC I (bL Xi (VB _ _ q_r1) ⟨(M I),hI,J⟩)⟩,
  ⟨⟨[⟨1,fun _=>Q (ai b 0),none⟩],_,1,1,I,⟨(fun _=>I),J⟩,I,I,I,I,I,fun _ sg _ _=>aC I (mW 0 pe I I I)⟩,
  J⟩⟩⟩⟩⟩⟩⟩ (fun sg=>?_)
 refine(show RG _ _ _ _ [_,_,_] _ from ?_);refine ib<|eA yQ I (rP q _) I (M I) (J5 (M I))<|bt 1 tL I<|cm CA He I<|ci<|bJ<|bt 0 pe I<|af (fc yQ An (.head _) I (M I))<|af (fh sF (.tail _ (.head _)) (M I))<|af (bU hI)<|ci<|av<|iz (.tail _ (.head _)) fun hN=>bY<|gS<|gS<|iY ?_;refine aR (gM (aA:=fun ls i q1=>(r.drop i=ls)/\f8 ls i q1=some R) (Of:=fun _ i q1=>[bx bd 31 b1 yJ,bx gC 31 b (ja q1 (Y ((sg 2).h 0).1 ((sg 2).h 0).2 q1.Selects.length)),d7 aB 55 ((sg 2).h 0).1 ((sg 2).h 0).2 q1.Selects]) (Gf:=fun _ i q1=>[(1,Q (ai b 0)),(2,Q (ai b1 0)),(18,Q (Y ((sg 2).h 0).1 ((sg 2).h 0).2 r.length)),(19,ni r),(20,ba (i:Int))]) (fun i q1 h=>?_) (fun e tl ih i q1 h=>?_) r 0 ({({q with Keys:=r1}:aN)with Selects:=r}:aN) ⟨I,h⟩) (bI I)
 ·obtain⟨V,h⟩:=h
  refine eQ V I<|aJ<|bB<|ib<|lb<|af (n4 (q:=bd) (y:=q1) oQ I I I I (.tail _ (.tail _ (.head _))) (fun _ _ _ ho h=>CI (nN ho (.head _)) h) (M I))<|cE<|cm oQ am I<|ie<|dl 2 I ?_;exact aK<|aK<|so h▸sC I oQ I I I
 ·obtain⟨V,h⟩:=h
  refine eP V I<|aM<|av<|aL I<|cI h fun e1 q_e1 h=>af (kh sF np (.tail _ (.tail _ (.head _))) (M I) (M I) q_e1 (zm V))<|cI h fun e2 q_e2 h=>af (cS (r:=aB) (i:=(i:Int)) (foff:=0) np I I bS I (.tail _ (.tail _ (.head _))) q_e2 (M I))<|cn false cF 88<|cn false dm 86<|aW (r:=bW) (x:=cZ (⟨false,false,[],(⟨[],[]⟩:da),[],pt,pt,[]⟩:al) (Y none 0 (([]:List eh).length)) (Y none 0 (([]:List kw).length))) np ya I fun b2=>lj I<|eA (r' :=aB) (x' :=e2) np I (eJ I) I (M I) (M I) ?_;refine(show RG _ _ _ _ [_,_,_,_,_,_] _ from ?_);refine cE<|nT<|cE<|nT<|ci<|aM<|cI h fun r2 q_r2 h=>cI h fun r3 q_r3 h=>cI h fun r4 q_r4 h=>?_
  refine eH 10 [tc (Q (ai b2 2)),tc (iL (cF) e2.Items),([2],fun s=>Q (Y ((s.getD 0 nj).h 0).1 ((s.getD 0 nj).h 0).2 r2.length)),tc (Q (ai b2 5)),tc (iL (dm) e2.Joins),([5],fun s=>Q (Y ((s.getD 0 nj).h 0).1 ((s.getD 0 nj).h 0).2 r3.length)),tc (Q (ai b2 8)),tc (iL (d8) e2.Group),tc (iL (d8) r4),tc (Q (ai b2 2))] [false,false,true,false,false,true,false,false,false,false] [fun _=>[bx aB 55 b2 e2,bx bd 31 b1 yJ,bx gC 31 b (ja q1 (Y ((sg 2).h 0).1 ((sg 2).h 0).2 q1.Selects.length)),d7 aB 55 ((sg 2).h 0).1 ((sg 2).h 0).2 q1.Selects],fun sg1=>[d7 cF 88 ((sg1 2).h 0).1 ((sg1 2).h 0).2 r2,bx aB 55 b2 e2,bx bd 31 b1 yJ,bx gC 31 b (ja q1 (Y ((sg 2).h 0).1 ((sg 2).h 0).2 q1.Selects.length)),d7 aB 55 ((sg 2).h 0).1 ((sg 2).h 0).2 q1.Selects],fun sg1=>[d7 dm 86 ((sg1 5).h 0).1 ((sg1 5).h 0).2 r3,d7 cF 88 ((sg1 2).h 0).1 ((sg1 2).h 0).2 r2,bx aB 55 b2 e2,bx bd 31 b1 yJ,bx gC 31 b (ja q1 (Y ((sg 2).h 0).1 ((sg 2).h 0).2 q1.Selects.length)),d7 aB 55 ((sg 2).h 0).1 ((sg 2).h 0).2 q1.Selects]] I mixed I I I I I
   ⟨⟨[⟨4,fun _=>Q (ai b2 0),none⟩],_,0,0,I,⟨(fun _=>I),J⟩,I,I,I,I,I,fun _ sg1 _ _=>aC I (mW 2 pd I I I)⟩,
   ⟨⟨[⟨25,fun _=>Q (ai b2 2),some 0⟩],_,0,0,I,⟨(fun _=>I),J⟩,I,I,I,I,I,eD (fun sg1=>aC I (aV zP I I ll (.head _) (M I)))⟩,
   ⟨⟨[⟨26,fun _=>K (ek cF) e2.Items,some 1⟩],_,I,⟨(fun _=>I),J⟩,I,I,I,fun sg1=>bw I (pV (xs:=[.tmp 26,.const (.int .i64 (7))]) (ts:=[K (ek cF) e2.Items,K aG (7:Int)]) Xh (Ng _ _ q_r2) ⟨(M I),hI,J⟩)⟩,
   ⟨⟨[⟨4,fun _=>Q (ai b2 0),none⟩],_,0,1,I,⟨(fun _=>I),J⟩,I,I,I,I,I,fun _ sg1 _ _=>aC I (mW 5 sk I I I)⟩,
   ⟨⟨[⟨28,fun _=>Q (ai b2 5),some 3⟩],_,0,1,I,⟨(fun _=>I),J⟩,I,I,I,I,I,pF (fun sg1=>aC I (aV AY I I mK (.head _) (M I))) (eD (fun sg1=>aC I (aV AY I I mK (.tail _ (.head _)) (M I))))⟩,
   ⟨⟨[⟨29,fun _=>K (ek dm) e2.Joins,some 4⟩],_,I,⟨(fun _=>I),J⟩,I,I,I,fun sg1=>bw I (pV (xs:=[.tmp 29,.const (.int .i64 (3))]) (ts:=[K (ek dm) e2.Joins,K aG (3:Int)]) Xg (Nf _ _ q_r3) ⟨(M I),hI,J⟩)⟩,
   ⟨⟨[⟨4,fun _=>Q (ai b2 0),none⟩],_,0,2,I,⟨(fun _=>I),J⟩,I,I,I,I,I,fun _ sg1 _ _=>aC I (mW 8 wA I I I)⟩,
   ⟨⟨[⟨31,fun _=>Q (ai b2 8),some 6⟩],_,0,2,I,⟨(fun _=>I),J⟩,I,I,I,I,I,pF (fun sg1=>aC I (aV Cz I I ju (.head _) (M I))) (pF (fun sg1=>aC I (aV Cz I I ju (.tail _ (.head _)) (M I))) (eD (fun sg1=>aC I (aV Cz I I ju (.tail _ (.tail _ (.head _))) (M I)))))⟩,
   ⟨⟨[⟨32,fun _=>K (ek d8) e2.Group,some 7⟩],_,2,2,I,⟨(fun _=>I),J⟩,I,I,I,I,I,fun _ sg1 _ _=>aC I (bL Xf (Q5 _ _ q_r4) ⟨(M I),hI,J⟩)⟩,
   ⟨⟨[⟨4,fun _=>Q (ai b2 0),none⟩],_,1,2,I,⟨(fun _=>I),J⟩,I,I,I,I,I,fun _ sg1 _ _=>aC I (mW 2 pd I I I)⟩,
   J⟩⟩⟩⟩⟩⟩⟩⟩⟩⟩ (fun sg1=>?_)
  refine(show RG _ _ _ _ [_,_,_,_,_,_] _ from ?_);refine ib<|eA zP I (qQ e2 _) I (M I) (J5 (M I))<|bt 5 sk I<|eA AY I (ol e2 _ _) I (M I) (J5 (M I))<|bt 8 wA I<|cm Cz vl I<|ci<|bJ<|bt 2 pd I<|af (fc zP nQ (.head _) I (M I))<|af (fh sE (.tail _ (.tail _ (.head _))) (M I))<|af (bU hI)<|ci<|av<|iz (.tail _ (.tail _ (.head _))) fun hN1=>bY<|gS<|iY<|iY<|xG ?_;refine xG<|xG ?_;refine aR (gM (aA:=fun ls1 i1 s=>(r2.drop i1=ls1)/\lA (f8 tl) i q1 ls1 i1 s=some R) (Of:=fun _ i1 s=>[bx bd 31 b1 yJ,bx gC 31 b (ja q1 (Y ((sg 2).h 0).1 ((sg 2).h 0).2 q1.Selects.length)),d7 aB 55 ((sg 2).h 0).1 ((sg 2).h 0).2 q1.Selects,bx bW 55 b2 (cZ s (Y ((sg1 2).h 0).1 ((sg1 2).h 0).2 s.Items.length) (Y ((sg1 5).h 0).1 ((sg1 5).h 0).2 s.Joins.length)),d7 cF 88 ((sg1 2).h 0).1 ((sg1 2).h 0).2 s.Items,d7 dm 86 ((sg1 5).h 0).1 ((sg1 5).h 0).2 s.Joins]) (Gf:=fun _ i1 s=>[(1,Q (ai b 0)),(2,Q (ai b1 0)),(3,ba (i:Int)),(4,Q (ai b2 0)),(18,Q (Y ((sg 2).h 0).1 ((sg 2).h 0).2 r.length)),(19,ni r),(20,ba (i:Int)),(38,Q (Y ((sg1 2).h 0).1 ((sg1 2).h 0).2 r2.length)),(39,ni r2),(40,ba (i1:Int))]) (fun i1 s h=>?_) (fun e3 tl1 ih1 i1 s h=>?_) r2 0 ({({({e2 with Group:=r4}:al)with Items:=r2}:al)with Joins:=r3}:al) ⟨I,h⟩) (bI I)
  ·obtain⟨hx1,h⟩:=h
   refine eQ hx1 I<|aJ<|bJ<|bt 5 sk I<|af (fc AY nP (.tail _ (.tail _ (.tail _ (.head _)))) I (M I))<|af (fh xM (.tail _ (.tail _ (.tail _ (.tail _ (.tail _ (.head _)))))) (M I))<|af (bU hI)<|ci<|av<|iz (.tail _ (.tail _ (.tail _ (.tail _ (.tail _ (.head _)))))) fun hN2=>?_;refine bY ?_;refine aR (gM (aA:=fun ls2 i2 s1=>(s.Joins.drop i2=ls2)/\lz (f8 tl) i q1 ls2 i2 s1=some R) (Of:=fun _ i2 s1=>[bx bd 31 b1 yJ,bx gC 31 b (ja q1 (Y ((sg 2).h 0).1 ((sg 2).h 0).2 q1.Selects.length)),d7 aB 55 ((sg 2).h 0).1 ((sg 2).h 0).2 q1.Selects,bx bW 55 b2 (cZ s1 (Y ((sg1 2).h 0).1 ((sg1 2).h 0).2 s1.Items.length) (Y ((sg1 5).h 0).1 ((sg1 5).h 0).2 s1.Joins.length)),d7 cF 88 ((sg1 2).h 0).1 ((sg1 2).h 0).2 s1.Items,d7 dm 86 ((sg1 5).h 0).1 ((sg1 5).h 0).2 s1.Joins]) (Gf:=fun _ i2 s1=>[(1,Q (ai b 0)),(2,Q (ai b1 0)),(3,ba (i:Int)),(4,Q (ai b2 0)),(18,Q (Y ((sg 2).h 0).1 ((sg 2).h 0).2 r.length)),(19,ni r),(20,ba (i:Int)),(55,Q (Y ((sg1 5).h 0).1 ((sg1 5).h 0).2 s.Joins.length)),(56,ni s.Joins),(57,ba (i2:Int))]) (fun i2 s1 h=>?_) (fun e4 tl2 ih2 i2 s1 h=>?_) s.Joins 0 s ⟨I,h⟩) (bI I)
   ·obtain⟨hx2,h⟩:=h
    refine eQ hx2 I<|aJ<|aM<|cI h fun r5 q_r5 h=>cI h fun r6 q_r6 h=>?_
    refine po 7 (ts:=[Q (ai b2 6),K aY s1.Where,K aY r5,Q (ai b2 7),K aY s1.Having,K aY r6,Q (ai b2 6)]) mixed I I I
     ⟨xQ 4 I I (mW 6 zi I I I),
     ⟨ka 71 0 I I (aV (r:=bW) (x:=cZ s1 (Y ((sg1 2).h 0).1 ((sg1 2).h 0).2 s1.Items.length) (Y ((sg1 5).h 0).1 ((sg1 5).h 0).2 s1.Joins.length)) jQ I I vu (.tail _ (.tail _ (.tail _ (.head _)))) (M I)),
     ⟨ka 72 1 I I (bL JJ (wD _ q_r5) ⟨(M I),J⟩),
     ⟨xQ 4 I I (mW 7 wB I I I),
     ⟨ka 74 3 I I (aV (r:=bW) (x:=cZ s1 (Y ((sg1 2).h 0).1 ((sg1 2).h 0).2 s1.Items.length) (Y ((sg1 5).h 0).1 ((sg1 5).h 0).2 s1.Joins.length)) jQ I I vt (.tail _ (.tail _ (.tail _ (.head _)))) (M I)),
     ⟨ka 75 4 I I (bL JJ (wD _ q_r6) ⟨(M I),J⟩),
     ⟨xQ 4 I I (mW 6 zi I I I),
     J⟩⟩⟩⟩⟩⟩⟩ ?_
    refine la<|cm jQ vn I<|bt 7 wB I<|cm jQ vm I<|ci<|bg<|bt 0 pe I<|af (fc yQ An (.tail _ (.tail _ (.head _))) I (M I))<|bE I<|rF<|lb<|rE<|lb<|af (n4 (q:=aB) (y:=({({({({s1 with Where:=r5}:al)with Having:=r6}:al)with Items:=s1.Items}:al)with Joins:=s1.Joins}:al)) np I I I I (.tail _ (.tail _ (.head _))) (fun _ _ _ ho h=>sm (nN ho (.tail _ (.head _))) (nN ho (.head _)) h) (M I))<|af (bK sF np (.tail _ (.tail _ (.tail _ (.tail _ (.tail _ (.head _)))))) (M I) (M I) q_e2)<|rE<|cI h fun st q_st h=>lY np I am I q_e2 (so q_st) (M I) (M I)<|gw (dW (so q_st)) 80 I<|jM (O' :=[d7 aB 55 ((sg 2).h 0).1 ((sg 2).h 0).2 st,Z dm 86 ((sg1 5).h 0).1 ((sg1 5).h 0).2 s1.Joins,Z cF 88 ((sg1 2).h 0).1 ((sg1 2).h 0).2 s1.Items,bx bW 55 b2 (cZ ({({s1 with Where:=r5}:al)with Having:=r6}:al) (Y ((sg1 2).h 0).1 ((sg1 2).h 0).2 s1.Items.length) (Y ((sg1 5).h 0).1 ((sg1 5).h 0).2 s1.Joins.length)),bx bd 31 b1 yJ,bx gC 31 b (ja q1 (Y ((sg 2).h 0).1 ((sg 2).h 0).2 st.length))]) (by first|(rw [dW (so q_st)];done)|(rw [dW (so q_st)];exact I)|exact I)<|bN<|bR<|aJ ?_;refine bg<|af (X7 (Ns V hN) I)<|bE I<|bN<|dc<|aK<|dc<|aK<|dc<|aK<|gT<|gT ?_;exact bu (aR (ih (i+1) ({q1 with Selects:=st}:aN) ⟨ee V,h⟩) (bI I))
   ·obtain⟨hx2,h⟩:=h
    refine eP hx2 I<|aM<|av<|aL I<|cI h fun e5 q_e5 h=>af (kh xM uv (.tail _ (.tail _ (.tail _ (.tail _ (.tail _ (.head _)))))) (M I) (M I) q_e5 (zm hx2))<|cI h fun e6 q_e6 h=>af (cS (r:=dm) (i:=(i2:Int)) (foff:=0) uv I I bS I (.tail _ (.tail _ (.tail _ (.tail _ (.tail _ (.head _)))))) q_e6 (M I))<|aW uv CQ I fun b3=>lj I<|cm uv am I<|aX 8 I<|bN ?_;refine aJ<|cI h fun r7 q_r7 h=>?_
    refine po 8 (ts:=[Q (ai b2 5),Q (Y ((sg1 5).h 0).1 ((sg1 5).h 0).2 s1.Joins.length),ba (i2:Int),bn aY e6.On,K aY e6.On,K aY r7,Q (cJ ((sg1 5).h 0).1 ((i2:Int).toNat*4+0)),Q (cJ ((sg1 5).h 0).1 ((i2:Int).toNat*4+3))]) mixed I I I
     ⟨xQ 4 I I (mW 5 sk I I I),
     ⟨ka 62 0 I I (fc AY nP (.tail _ (.tail _ (.tail _ (.head _)))) I (M I)),
     ⟨oL I I,
     ⟨xQ 8 I I (yb Bx xo I I),
     ⟨yM 3 jQ I I,
     ⟨ka 66 4 I I (bL JJ (wD _ q_r7) ⟨(M I),J⟩),
     ⟨oF 63 1 64 2 I I I (bK xM uv (.tail _ (.tail _ (.tail _ (.tail _ (.tail _ (.head _)))))) (M I) (M I) q_e6),
     ⟨ka 68 6 I I (cC (o:=(i2:Int).toNat*4+0) (n:=(i2:Int).toNat*4+3) Bx I (.tail _ (.tail _ (.tail _ (.tail _ (.tail _ (.head _)))))) q_e6 (M I) I),
     J⟩⟩⟩⟩⟩⟩⟩⟩ ?_
    refine rE<|cI h fun st1 q_st1 h=>lY jQ I F2 I q_e6 (so q_st1) (M I) (M I)<|gw (dW (so q_st1)) 63 I<|jM (O' :=[d7 dm 86 ((sg1 5).h 0).1 ((sg1 5).h 0).2 st1,bx bd 31 b1 yJ,bx gC 31 b (ja q1 (Y ((sg 2).h 0).1 ((sg 2).h 0).2 q1.Selects.length)),d7 aB 55 ((sg 2).h 0).1 ((sg 2).h 0).2 q1.Selects,bx bW 55 b2 (cZ s1 (Y ((sg1 2).h 0).1 ((sg1 2).h 0).2 s1.Items.length) (Y ((sg1 5).h 0).1 ((sg1 5).h 0).2 st1.length)),d7 cF 88 ((sg1 2).h 0).1 ((sg1 2).h 0).2 s1.Items]) (by first|(rw [dW (so q_st1)];done)|(rw [dW (so q_st1)];exact I)|exact I)<|bN<|eB hx2 hN2 I<|er<|er<|er<|er<|er ?_;exact bu (aR (ih2 (i2+1) ({s1 with Joins:=st1}:al) ⟨ee hx2,h⟩) (bI I))
  ·obtain⟨hx1,h⟩:=h
   refine eP hx1 I<|aM<|av<|aL I<|cI h fun e7 q_e7 h=>af (kh sE oP (.tail _ (.tail _ (.tail _ (.tail _ (.head _))))) (M I) (M I) q_e7 (zm hx1))<|cI h fun e8 q_e8 h=>af (cS (r:=cF) (i:=(i1:Int)) (foff:=0) oP I I bS I (.tail _ (.tail _ (.tail _ (.tail _ (.head _))))) q_e8 (M I))<|aW oP uq I fun b4=>lj I<|cm oP am I<|aX 6 I<|bN ?_;refine aJ<|cI h fun r8 q_r8 h=>?_
   refine po 8 (ts:=[Q (ai b2 2),Q (Y ((sg1 2).h 0).1 ((sg1 2).h 0).2 s.Items.length),ba (i1:Int),bn aY e8.Tree,K aY e8.Tree,K aY r8,Q (cJ ((sg1 2).h 0).1 ((i1:Int).toNat*2+0)),Q (cJ ((sg1 2).h 0).1 ((i1:Int).toNat*2+0))]) mixed I I I
    ⟨xQ 4 I I (mW 2 pd I I I),
    ⟨ka 45 0 I I (fc zP nQ (.tail _ (.tail _ (.tail _ (.head _)))) I (M I)),
    ⟨oL I I,
    ⟨xQ 6 I I (yb tK oy I I),
    ⟨yM 3 jQ I I,
    ⟨ka 49 4 I I (bL JJ (wD _ q_r8) ⟨(M I),J⟩),
    ⟨oF 46 1 47 2 I I I (bK sE oP (.tail _ (.tail _ (.tail _ (.tail _ (.head _))))) (M I) (M I) q_e8),
    ⟨ka 51 6 I I (cC (o:=(i1:Int).toNat*2+0) (n:=(i1:Int).toNat*2+0) tK I (.tail _ (.tail _ (.tail _ (.tail _ (.head _))))) q_e8 (M I) I),
    J⟩⟩⟩⟩⟩⟩⟩⟩ ?_
   refine rF<|cI h fun st2 q_st2 h=>lY jQ I Ba I q_e8 (so q_st2) (M I) (M I)<|gw (dW (so q_st2)) 46 I<|jM (O' :=[d7 cF 88 ((sg1 2).h 0).1 ((sg1 2).h 0).2 st2,bx bd 31 b1 yJ,bx gC 31 b (ja q1 (Y ((sg 2).h 0).1 ((sg 2).h 0).2 q1.Selects.length)),d7 aB 55 ((sg 2).h 0).1 ((sg 2).h 0).2 q1.Selects,bx bW 55 b2 (cZ s (Y ((sg1 2).h 0).1 ((sg1 2).h 0).2 st2.length) (Y ((sg1 5).h 0).1 ((sg1 5).h 0).2 s.Joins.length)),d7 dm 86 ((sg1 5).h 0).1 ((sg1 5).h 0).2 s.Joins]) (by first|(rw [dW (so q_st2)];done)|(rw [dW (so q_st2)];exact I)|exact I)<|bN<|eB hx1 hN1 I<|er<|dc<|er<|er<|er<|er ?_;exact bu (aR (ih1 (i1+1) ({s with Items:=st2}:al) ⟨ee hx1,h⟩) (bI I))

end Go.Proofs.YthbdkceckjihgaaGreatDoor

