/- cH of this claim: P10. -/
import Derived.Test.YthbdkceckjihgaaGreatDoorBaT
import Derived.Test.YthbdkceckjihgaaGreatDoorBaP9
set_option linter.all false
namespace Go.Proofs.YthbdkceckjihgaaGreatDoor
open Go
set_option maxRecDepth 100000

def E0 l most{R}(h:eW l most=some R):fL aH 22 [lE l,aO most] false aC 3 R:=by
 exact fL.of Tryz.func22 I I I fun w0 S0=>aU<|bS false aC 3<|d (bC tw)<|bG<|aU<|fk (r:=aC) (ys:=sM) (xs:=[]) eu cF I I I I I trivial I fun l1 c=>a8 I<|a8 I<|cu eu I<|a8 I<|d (ji (Y I) (Y I))<|ck h fun y q_y h=>d (iS eu cF I (Y I) (Y I) q_y)<|ck h fun x q_x h=>dH cF I I I I eu I I (Y I) (Y I) q_x fun l2 c1=>aR I<|so h▸jp I I
def DL l most{R}(h:eW l most=some R):cw aH 22 [lE l,aO most] (lE R):=(E0 _ _ h).spec

def Jm l most{R}(h:ka l most=some R):fL aH 30 [fO (bW) l,aO most] false bW 110 R:=by
 exact fL.of Tryz.func30 I I I fun w0 S0=>aU<|bS false bW 110<|d (bC tw)<|bG<|aU<|fk (r:=bW) (ys:=([]:List bv)) (xs:=[]) mj ie I I I I I trivial I fun l1 c=>a8 I<|a8 I<|cu mj I<|a8 I<|d (ji (Y I) (Y I))<|ck h fun y q_y h=>d (iS mj ie I (Y I) (Y I) q_y)<|ck h fun x q_x h=>dH ie I I I I mj I I (Y I) (Y I) q_x fun l2 c1=>aR I<|so h▸jp I I
def Jl l most{R}(h:gZ l most=some R):fL aH 31 [fO (bO) l,aO most] false bO 113 R:=by
 exact fL.of Tryz.func31 I I I fun w0 S0=>aU<|bS false bO 113<|d (bC tw)<|bG<|aU<|fk (r:=bO) (ys:=([]:List bw)) (xs:=[]) kQ fG I I I I I trivial I fun l1 c=>a8 I<|a8 I<|cu kQ I<|a8 I<|d (ji (Y I) (Y I))<|ck h fun y q_y h=>d (iS kQ fG I (Y I) (Y I) q_y)<|ck h fun x q_x h=>dH fG I I I I kQ I I (Y I) (Y I) q_x fun l2 c1=>aR I<|so h▸jp I I
def L8 l most{R}(h:gZ l most=some R):cw aH 31 [fO (bO) l,aO most] (fO (bO) R):=(Jl _ _ h).spec

def Bc c{R}(h:oF c=some R):cw aH 10 [V bc c] (V bc R):=by
 refine cX Tryz.func10 I<|aU<|cY I<|aT lB lH I fun b=>bG<|aU<|bN iU dw pd I<|xk h Qe (Jm _ _) (dc I) fun r h l c1=>d (bV (y:=gm (⟨r⟩:aY) (M l c1 r.length)) lB Ni tG (⟨_,_,_,_,_,I,xr,I,(IE (Y I)),I⟩))<|bS false bW 110<|aT (r:=eZ) (x:=gm Ai (M none 0 (([]:List bv).length))) lB tG I fun b1=>hZ (r' :=eZ) lB I (fx I) I (Y I) (Y I)<|cU<|oT<|bG<|aZ ?_;refine bz 0 iU I<|d (fR pd lb (.head _) I (Y I))<|d (eK mj (.tail _ (.head _)) (Y I))<|d (bt hI)<|bG<|ai<|iY (.tail _ (.head _)) fun hN=>bq<|fg<|fg<|jd ?_;refine aE (ft (aw:=fun ls i out=>(r.drop i=ls)/\iB ls i out=some R) (Of:=fun _ i out=>[bx bc 24 b Ai,bx eZ 24 b1 (gm out (M l c1 out.Tables.length)),eg bW 110 l c1 out.Tables]) (Gf:=fun _ i out=>[(2,tV (aj b 0)),(3,tV (aj b1 0)),(11,oq l c1 r),(12,jf r),(13,aO (i:Int))]) (fun i out h=>?_) (fun e tl ih i out h=>?_) r 0 ({(⟨r⟩:aY)with Tables:=r}:aY) ⟨I,h⟩) (be I)
 ·obtain⟨A,h⟩:=h
  refine dr A I<|av<|aU<|gS<|jc<|d (nK (q:=bc) (y:=out) lB I I I I (.tail _ (.tail _ (.head _))) (fun _ _ _ ho h=>uG (oC ho (.head _)) h) (Y I))<|cU<|bX lB al I<|dh<|cQ 2 I ?_;exact aI<|aI<|so h▸oe I lB I I I
 ·obtain⟨A,h⟩:=h
  refine dq A I<|aF<|ai<|aG I<|ck h fun e1 q_e1 h=>d (mf mj ie (.tail _ (.tail _ (.head _))) (Y I) (Y I) q_e1 (Be A))<|ck h fun e2 q_e2 h=>d (cK (r:=bW) (i:=(i:Int)) (foff:=0) ie I I bZ I (.tail _ (.tail _ (.head _))) q_e2 (Y I))<|aT ie tH I fun b2=>gJ I<|bX ie al I<|aP 5 I<|bu ?_;refine av<|ck h fun r1 q_r1 h=>ck h fun r2 q_r2 h=>ck h fun st q_st h=>?_
  refine eh 15 [tc (tV (aj b1 0)),tc (oq l c1 out.Tables),tc (aO (i:Int)),tc (tV (aj b1 0)),tc (oq l c1 out.Tables),tc (aO (i:Int)),tc (bb (dz bO) e2.Columns),tc (fO (bO) e2.Columns),tc (fO (bO) r1),tc (bb Mq e2.Keys),tc (lE e2.Keys),tc (lE r2),tc (tV (cv l ((i:Int).toNat*3+0))),tc (tV (cv l ((i:Int).toNat*3+1))),tc (oX)] [false,false,false,false,false,false,false,false,false,false,false,false,false,false,true] [fun _=>[bx bc 24 b Ai,bx eZ 24 b1 (gm out (M l c1 out.Tables.length)),eg bW 110 l c1 out.Tables],fun sg=>[eg bW 110 l c1 st,bx bc 24 b Ai,bx eZ 24 b1 (gm out (M l c1 out.Tables.length))]] I mixed I I I I I
   ⟨⟨[⟨3,fun _=>tV (aj b1 0),none⟩],_,0,0,I,⟨(fun _=>I),Q⟩,I,I,I,I,I,fun _ sg _ _=>h2 I (lA 0 iU I I I)⟩,
   ⟨⟨[⟨18,fun _=>tV (aj b1 0),some 0⟩],_,0,0,I,⟨(fun _=>I),Q⟩,I,I,I,I,I,d6 (fun sg=>h2 I (fR pd lb (.tail _ (.head _)) I (Y I)))⟩,
   ⟨⟨[⟨4,fun _=>V aC (i:Int),none⟩],_,0,0,I,⟨(fun _=>I),Q⟩,I,I,I,I,I,fun _ sg _ _=>h2 I (fh I)⟩,
   ⟨⟨[⟨3,fun _=>tV (aj b1 0),none⟩],_,0,1,I,⟨(fun _=>I),Q⟩,I,I,I,I,I,fun _ sg _ _=>h2 I (lA 0 iU I I I)⟩,
   ⟨⟨[⟨21,fun _=>tV (aj b1 0),some 3⟩],_,0,1,I,⟨(fun _=>I),Q⟩,I,I,I,I,I,nA (fun sg=>h2 I (fR pd lb (.tail _ (.head _)) I (Y I))) (d6 (fun sg=>h2 I (fR pd lb (.tail _ (.tail _ (.head _))) I (Y I))))⟩,
   ⟨⟨[⟨4,fun _=>V aC (i:Int),none⟩],_,0,1,I,⟨(fun _=>I),Q⟩,I,I,I,I,I,fun _ sg _ _=>h2 I (fh I)⟩,
   ⟨⟨[⟨5,fun _=>bb bW e2,none⟩],_,0,0,I,⟨(fun _=>I),Q⟩,I,I,I,I,I,fun _ sg _ _=>h2 I (oo g9 ew I I)⟩,
   ⟨⟨[⟨24,fun _=>bb (dz bO) e2.Columns,some 6⟩],_,0,0,I,⟨(fun _=>I),Q⟩,I,I,I,I,I,fun _ sg _ _=>h2 I (o9 mp I I)⟩,
   ⟨⟨[⟨25,fun _=>V (dz bO) e2.Columns,some 7⟩],_,0,0,I,⟨(fun _=>I),Q⟩,I,I,I,I,I,fun _ sg _ _=>h2 I (bp Qd (L8 _ _ q_r1) ⟨(Y I),hI,Q⟩)⟩,
   ⟨⟨[⟨5,fun _=>bb bW e2,none⟩],_,0,0,I,⟨(fun _=>I),Q⟩,I,I,I,I,I,fun _ sg _ _=>h2 I (oo nj jB I I)⟩,
   ⟨⟨[⟨27,fun _=>bb wy e2.Keys,some 9⟩],_,0,0,I,⟨(fun _=>I),Q⟩,I,I,I,I,I,fun _ sg _ _=>h2 I (o9 gc I I)⟩,
   ⟨⟨[⟨28,fun _=>V wy e2.Keys,some 10⟩],_,0,0,I,⟨(fun _=>I),Q⟩,I,I,I,I,I,fun _ sg _ _=>h2 I (bp Ke (DL _ _ q_r2) ⟨(Y I),hI,Q⟩)⟩,
   ⟨⟨[⟨19,fun _=>tV (M l c1 out.Tables.length),some 1⟩,⟨20,fun _=>V aC (i:Int),some 2⟩],_,0,0,I,⟨(fun _=>I),(fun _=>I),Q⟩,I,I,I,I,I,d6 (fun sg=>h2 I (bK mj ie (.tail _ (.tail _ (.head _))) (Y I) (Y I) q_e2))⟩,
   ⟨⟨[⟨30,fun _=>tV (cv l ((i:Int).toNat*3+0)),some 12⟩],_,0,0,I,⟨(fun _=>I),Q⟩,I,I,I,I,I,d6 (fun sg=>h2 I (cy (o:=(i:Int).toNat*3+0) (n:=(i:Int).toNat*3+1) g9 I (.tail _ (.tail _ (.head _))) q_e2 (Y I) I))⟩,
   ⟨⟨[⟨31,fun _=>tV (cv l ((i:Int).toNat*3+1)),some 13⟩,⟨26,fun _=>V (dz bO) r1,some 8⟩],_,I,⟨(fun _=>I),(fun _=>I),Q⟩,I,I,I,fun sg=>bB I (EffOK.fr2 (te (r:=bW) (i:=(i:Int)) (foff:=1) mp I sW I q_e2 (so q_st) (Y I) (Y I)))⟩,
   Q⟩⟩⟩⟩⟩⟩⟩⟩⟩⟩⟩⟩⟩⟩⟩ (fun sg=>?_)
  refine(show RG _ _ _ _ [_,_,_] _ from ?_);refine i6 (O' :=[eg bW 110 l c1 st,bx bc 24 b Ai,bx eZ 24 b1 (gm out (M l c1 st.length))]) (by first|(rw [eI (so q_st)];done)|(rw [eI (so q_st)];exact I)|exact I)<|ck h fun e3 q_e3 h=>d (bK mj ie (.head _) (Y I) (Y I) q_e3 ((eI (so q_st)).symm))<|d (cy (o:=(i:Int).toNat*3+0) (n:=(i:Int).toNat*3+2) nj I (.head _) q_e3 (Y I) I)<|ck h fun st1 q_st1 h=>lZ gc I C8 I q_e3 (so q_st1) (Y I) (Y I)<|i6 (O' :=[eg bW 110 l c1 st1,bx bc 24 b Ai,bx eZ 24 b1 (gm out (M l c1 st1.length))]) (by first|(rw [eI (so q_st1)];done)|(rw [eI (so q_st1)];exact I)|exact I)<|bu<|db A hN I<|fY<|fY ?_;exact aM (aE (ih (i+1) ({out with Tables:=st1}:aY) ⟨cW A,h⟩) (be I))

def Jk l most{R}(h:jz l most=some R):fL aH 32 [fO (aV) l,aO most] false aV 55 R:=by
 exact fL.of Tryz.func32 I I I fun w0 S0=>aU<|bS false aV 55<|d (bC tw)<|bG<|aU<|fk (r:=aV) (ys:=([]:List aJ)) (xs:=[]) qy mR I I I I I trivial I fun l1 c=>a8 I<|a8 I<|cu qy I<|a8 I<|d (ji (Y I) (Y I))<|ck h fun y q_y h=>d (iS qy mR I (Y I) (Y I) q_y)<|ck h fun x q_x h=>dH mR I I I I qy I I (Y I) (Y I) q_x fun l2 c1=>aR I<|so h▸jp I I
def Jj l most{R}(h:jk l most=some R):fL aH 33 [fO (gk) l,aO most] false gk 57 R:=by
 exact fL.of Tryz.func33 I I I fun w0 S0=>aU<|bS false gk 57<|d (bC tw)<|bG<|aU<|fk (r:=gk) (ys:=([]:List tv)) (xs:=[]) xb wD I I I I I trivial I fun l1 c=>a8 I<|a8 I<|cu xb I<|a8 I<|d (ji (Y I) (Y I))<|ck h fun y q_y h=>d (iS xb wD I (Y I) (Y I) q_y)<|ck h fun x q_x h=>dH wD I I I I xb I I (Y I) (Y I) q_x fun l2 c1=>aR I<|so h▸jp I I
def L7 l most{R}(h:jk l most=some R):cw aH 33 [fO (gk) l,aO most] (fO (gk) R):=(Jj _ _ h).spec

def Ji l most{R}(h:kD l most=some R):fL aH 34 [fO (cV) l,aO most] false cV 88 R:=by
 exact fL.of Tryz.func34 I I I fun w0 S0=>aU<|bS false cV 88<|d (bC tw)<|bG<|aU<|fk (r:=cV) (ys:=([]:List er)) (xs:=[]) oW lJ I I I I I trivial I fun l1 c=>a8 I<|a8 I<|cu oW I<|a8 I<|d (ji (Y I) (Y I))<|ck h fun y q_y h=>d (iS oW lJ I (Y I) (Y I) q_y)<|ck h fun x q_x h=>dH lJ I I I I oW I I (Y I) (Y I) q_x fun l2 c1=>aR I<|so h▸jp I I
def Jh l most{R}(h:kC l most=some R):fL aH 35 [fO (d7) l,aO most] false d7 86 R:=by
 exact fL.of Tryz.func35 I I I fun w0 S0=>aU<|bS false d7 86<|d (bC tw)<|bG<|aU<|fk (r:=d7) (ys:=([]:List kN)) (xs:=[]) uU tM I I I I I trivial I fun l1 c=>a8 I<|a8 I<|cu uU I<|a8 I<|d (ji (Y I) (Y I))<|ck h fun y q_y h=>d (iS uU tM I (Y I) (Y I) q_y)<|ck h fun x q_x h=>dH tM I I I I uU I I (Y I) (Y I) q_x fun l2 c1=>aR I<|so h▸jp I I
def Jg l most{R}(h:iT l most=some R):fL aH 36 [fO (dS) l,aO most] false dS 91 R:=by
 exact fL.of Tryz.func36 I I I fun w0 S0=>aU<|bS false dS 91<|d (bC tw)<|bG<|aU<|fk (r:=dS) (ys:=([]:List iK)) (xs:=[]) ww u0 I I I I I trivial I fun l1 c=>a8 I<|a8 I<|cu ww I<|a8 I<|d (ji (Y I) (Y I))<|ck h fun y q_y h=>d (iS ww u0 I (Y I) (Y I) q_y)<|ck h fun x q_x h=>dH u0 I I I I ww I I (Y I) (Y I) q_x fun l2 c1=>aR I<|so h▸jp I I
def L6 l most{R}(h:iT l most=some R):cw aH 36 [fO (dS) l,aO most] (fO (dS) R):=(Jg _ _ h).spec

def Jd l most{R}(h:kB l most=some R):fL aH 82 [fO (cg) l,aO most] false cg 162 R:=by
 exact fL.of Tryz.func82 I I I fun w0 S0=>aU<|bS false cg 162<|d (bC tw)<|bG<|aU<|fk (r:=cg) (ys:=([]:List dZ)) (xs:=[]) nv ko I I I I I trivial I fun l1 c=>a8 I<|a8 I<|cu nv I<|a8 I<|d (ji (Y I) (Y I))<|ck h fun y q_y h=>d (iS nv ko I (Y I) (Y I) q_y)<|ck h fun x q_x h=>dH ko I I I I nv I I (Y I) (Y I) q_x fun l2 c1=>aR I<|so h▸jp I I
def A6 t{R}(h:jy t=some R):cw aH 37 [V bh t] (V bh R):=by
 refine cX Tryz.func37 I<|aU<|cY I<|aT iR m7 I fun b=>bG<|aU<|bN kE gv sP I<|xk h PD (Jd _ _) (dc I) fun r h l c=>d (bV (y:=i8 (⟨r⟩:cD) (M l c r.length)) iR Ng y5 (⟨_,_,_,_,_,I,BK,I,(IE (Y I)),I⟩))<|bS false cg 162<|aT (r:=gQ) (x:=i8 lz (M none 0 (([]:List dZ).length))) iR y5 I fun b1=>hZ (r' :=gQ) iR I (fx I) I (Y I) (Y I)<|cU<|oT<|bG<|aZ ?_;refine bz 0 kE I<|d (fR sP wc (.head _) I (Y I))<|d (eK nv (.tail _ (.head _)) (Y I))<|d (bt hI)<|bG<|ai<|iY (.tail _ (.head _)) fun hN=>bq<|fg<|fg<|jd ?_;refine aE (ft (aw:=fun ls i out=>(r.drop i=ls)/\iC ls i out=some R) (Of:=fun _ i out=>[bx bh 52 b lz,bx gQ 52 b1 (i8 out (M l c out.Nodes.length)),eg cg 162 l c out.Nodes]) (Gf:=fun _ i out=>[(2,tV (aj b 0)),(3,tV (aj b1 0)),(12,jf r),(13,aO (i:Int))]) (fun i out h=>?_) (fun e tl ih i out h=>?_) r 0 ({(⟨r⟩:cD)with Nodes:=r}:cD) ⟨I,h⟩) (be I)
 ·obtain⟨A,h⟩:=h
  refine dr A I<|av<|aU<|gS<|jc<|d (nK (q:=bh) (y:=out) iR I I I I (.tail _ (.tail _ (.head _))) (fun _ _ _ ho h=>yj (oC ho (.head _)) h) (Y I))<|cU<|bX iR al I<|dh<|cQ 2 I ?_;exact aI<|aI<|so h▸oe I iR I I I
 ·obtain⟨A,h⟩:=h
  refine dq A I<|aF<|ai<|aG I<|bk I<|aU<|bz 0 kE I<|d (fR sP wc (.tail _ (.head _)) I (Y I))<|a8 I<|ck h fun e1 q_e1 h=>?_;refine d (bK nv ko (.tail _ (.tail _ (.head _))) (Y I) (Y I) q_e1)<|bk I<|ck h fun y q_y h=>ck h fun y1 q_y1 h=>ck h fun y2 q_y2 h=>ck h fun st q_st h=>ck h fun e2 q_e2 h=>ck h fun st1 q_st1 h=>?_
  refine eh 45 [tc (tV (cv l ((i:Int).toNat*9+0))),tc (tV (cv l ((i:Int).toNat*9+0))),tc (tV (cv l ((i:Int).toNat*9+0))),tc (tV (cv l ((i:Int).toNat*9+0))),tc (tV (cv l ((i:Int).toNat*9+0))),tc (tV (cv l ((i:Int).toNat*9+3))),tc (tV (cv l ((i:Int).toNat*9+6))),tc (V rS e1.Value.S),tc (tV (cv l ((i:Int).toNat*9+0))),tc (tV (cv l ((i:Int).toNat*9+0))),tc (tV (cv l ((i:Int).toNat*9+3))),tc (tV (cv l ((i:Int).toNat*9+6))),tc (V rS e1.Value.S),tc (jf e1.Value.S),tc (aO (min (e1.Value.S.length:Int) (60:Int))),tc (V rS y),tc (tV (cv l ((i:Int).toNat*9+0))),tc (tV (cv l ((i:Int).toNat*9+0))),tc (tV (cv l ((i:Int).toNat*9+7))),tc (V rS e1.Table),tc (tV (cv l ((i:Int).toNat*9+0))),tc (tV (cv l ((i:Int).toNat*9+0))),tc (tV (cv l ((i:Int).toNat*9+7))),tc (V rS e1.Table),tc (jf e1.Table),tc (aO (min (e1.Table.length:Int) (40:Int))),tc (V rS y1),tc (tV (cv l ((i:Int).toNat*9+0))),tc (tV (cv l ((i:Int).toNat*9+0))),tc (tV (cv l ((i:Int).toNat*9+8))),tc (V rS e1.Name),tc (tV (cv l ((i:Int).toNat*9+0))),tc (tV (cv l ((i:Int).toNat*9+0))),tc (tV (cv l ((i:Int).toNat*9+8))),tc (V rS e1.Name),tc (jf e1.Name),tc (aO (min (e1.Name.length:Int) (40:Int))),tc (V rS y2),tc (tV (cv l ((i:Int).toNat*9+0))),tc (tV (cv l ((i:Int).toNat*9+3))),tc (tV (cv l ((i:Int).toNat*9+6))),tc (oX),tc (tV (cv l ((i:Int).toNat*9+0))),tc (tV (cv l ((i:Int).toNat*9+7))),tc (oX)] [false,false,false,false,false,false,false,false,false,false,false,false,false,false,false,false,false,false,false,false,false,false,false,false,false,false,false,false,false,false,false,false,false,false,false,false,false,false,false,false,false,true,false,false,true] [fun _=>[bx bh 52 b lz,bx gQ 52 b1 (i8 out (M l c out.Nodes.length)),eg cg 162 l c out.Nodes],fun sg=>[eg cg 162 l c st,bx bh 52 b lz,bx gQ 52 b1 (i8 out (M l c out.Nodes.length))],fun sg=>[eg cg 162 l c st1,bx bh 52 b lz,bx gQ 52 b1 (i8 out (M l c out.Nodes.length))]] I mixed I I I I I
   ⟨⟨[⟨5,fun _=>tV (cv l ((i:Int).toNat*9+0)),none⟩],_,0,0,I,⟨(fun _=>I),Q⟩,I,I,I,I,I,fun _ sg _ _=>h2 I (fh I)⟩,
   ⟨⟨[⟨5,fun _=>tV (cv l ((i:Int).toNat*9+0)),none⟩],_,0,1,I,⟨(fun _=>I),Q⟩,I,I,I,I,I,fun _ sg _ _=>h2 I (fh I)⟩,
   ⟨⟨[⟨5,fun _=>tV (cv l ((i:Int).toNat*9+0)),none⟩],_,0,2,I,⟨(fun _=>I),Q⟩,I,I,I,I,I,fun _ sg _ _=>h2 I (fh I)⟩,
   ⟨⟨[⟨5,fun _=>tV (cv l ((i:Int).toNat*9+0)),none⟩],_,0,0,I,⟨(fun _=>I),Q⟩,I,I,I,I,I,fun _ sg _ _=>h2 I (fh I)⟩,
   ⟨⟨[⟨23,fun _=>tV (cv l ((i:Int).toNat*9+0)),some 3⟩],_,0,0,I,⟨(fun _=>I),Q⟩,I,I,I,I,I,d6 (fun sg=>h2 I (ne (.tail _ (.tail _ (.head _))) q_e1 (Y I)))⟩,
   ⟨⟨[⟨24,fun _=>tV (cv l ((i:Int).toNat*9+0)),some 4⟩],_,0,0,I,⟨(fun _=>I),Q⟩,I,I,I,I,I,d6 (fun sg=>h2 I (cy (o:=(i:Int).toNat*9+0) (n:=(i:Int).toNat*9+3) oK I (.tail _ (.tail _ (.head _))) q_e1 (Y I) I))⟩,
   ⟨⟨[⟨25,fun _=>tV (cv l ((i:Int).toNat*9+3)),some 5⟩],_,0,0,I,⟨(fun _=>I),Q⟩,I,I,I,I,I,d6 (fun sg=>h2 I (cy (o:=(i:Int).toNat*9+3) (n:=(i:Int).toNat*9+6) rK I (.tail _ (.tail _ (.head _))) q_e1 (Y I) I))⟩,
   ⟨⟨[⟨26,fun _=>tV (cv l ((i:Int).toNat*9+6)),some 6⟩],_,0,0,I,⟨(fun _=>I),Q⟩,I,I,I,I,I,d6 (fun sg=>h2 I (cK (r:=cg) (i:=(i:Int)) (foff:=6) j5 I I (ed kK nO) I (.tail _ (.tail _ (.head _))) q_e1 (Y I)))⟩,
   ⟨⟨[⟨5,fun _=>tV (cv l ((i:Int).toNat*9+0)),none⟩],_,0,0,I,⟨(fun _=>I),Q⟩,I,I,I,I,I,fun _ sg _ _=>h2 I (fh I)⟩,
   ⟨⟨[⟨28,fun _=>tV (cv l ((i:Int).toNat*9+0)),some 8⟩],_,0,0,I,⟨(fun _=>I),Q⟩,I,I,I,I,I,d6 (fun sg=>h2 I (ne (.tail _ (.tail _ (.head _))) q_e1 (Y I)))⟩,
   ⟨⟨[⟨29,fun _=>tV (cv l ((i:Int).toNat*9+0)),some 9⟩],_,0,0,I,⟨(fun _=>I),Q⟩,I,I,I,I,I,d6 (fun sg=>h2 I (cy (o:=(i:Int).toNat*9+0) (n:=(i:Int).toNat*9+3) oK I (.tail _ (.tail _ (.head _))) q_e1 (Y I) I))⟩,
   ⟨⟨[⟨30,fun _=>tV (cv l ((i:Int).toNat*9+3)),some 10⟩],_,0,0,I,⟨(fun _=>I),Q⟩,I,I,I,I,I,d6 (fun sg=>h2 I (cy (o:=(i:Int).toNat*9+3) (n:=(i:Int).toNat*9+6) rK I (.tail _ (.tail _ (.head _))) q_e1 (Y I) I))⟩,
   ⟨⟨[⟨31,fun _=>tV (cv l ((i:Int).toNat*9+6)),some 11⟩],_,0,0,I,⟨(fun _=>I),Q⟩,I,I,I,I,I,d6 (fun sg=>h2 I (cK (r:=cg) (i:=(i:Int)) (foff:=6) j5 I I (ed kK nO) I (.tail _ (.tail _ (.head _))) q_e1 (Y I)))⟩,
   ⟨⟨[⟨32,fun _=>V rS e1.Value.S,some 12⟩],_,0,0,I,⟨(fun _=>I),Q⟩,I,I,I,I,I,fun _ sg _ _=>h2 I (me kx (Y I))⟩,
   ⟨⟨[⟨33,fun _=>V aC (e1.Value.S.length:Int),some 13⟩],_,0,0,I,⟨(fun _=>I),Q⟩,I,I,I,I,I,fun _ sg _ _=>h2 I (ji (Y I) hI)⟩,
   ⟨⟨[⟨27,fun _=>V rS e1.Value.S,some 7⟩,⟨34,fun _=>V aC (min (e1.Value.S.length:Int) (60:Int)),some 14⟩],_,0,0,I,⟨(fun _=>I),(fun _=>I),Q⟩,I,I,I,I,I,fun _ sg _ _=>h2 I (vj kx (Y I) (Y I) q_y)⟩,
   ⟨⟨[⟨5,fun _=>tV (cv l ((i:Int).toNat*9+0)),none⟩],_,0,0,I,⟨(fun _=>I),Q⟩,I,I,I,I,I,fun _ sg _ _=>h2 I (fh I)⟩,
   ⟨⟨[⟨36,fun _=>tV (cv l ((i:Int).toNat*9+0)),some 16⟩],_,0,0,I,⟨(fun _=>I),Q⟩,I,I,I,I,I,d6 (fun sg=>h2 I (ne (.tail _ (.tail _ (.head _))) q_e1 (Y I)))⟩,
   ⟨⟨[⟨37,fun _=>tV (cv l ((i:Int).toNat*9+0)),some 17⟩],_,0,0,I,⟨(fun _=>I),Q⟩,I,I,I,I,I,d6 (fun sg=>h2 I (cy (o:=(i:Int).toNat*9+0) (n:=(i:Int).toNat*9+7) rG I (.tail _ (.tail _ (.head _))) q_e1 (Y I) I))⟩,
   ⟨⟨[⟨38,fun _=>tV (cv l ((i:Int).toNat*9+7)),some 18⟩],_,0,0,I,⟨(fun _=>I),Q⟩,I,I,I,I,I,d6 (fun sg=>h2 I (cK (r:=cg) (i:=(i:Int)) (foff:=7) j5 I I pl I (.tail _ (.tail _ (.head _))) q_e1 (Y I)))⟩,
   ⟨⟨[⟨5,fun _=>tV (cv l ((i:Int).toNat*9+0)),none⟩],_,0,0,I,⟨(fun _=>I),Q⟩,I,I,I,I,I,fun _ sg _ _=>h2 I (fh I)⟩,
   ⟨⟨[⟨40,fun _=>tV (cv l ((i:Int).toNat*9+0)),some 20⟩],_,0,0,I,⟨(fun _=>I),Q⟩,I,I,I,I,I,d6 (fun sg=>h2 I (ne (.tail _ (.tail _ (.head _))) q_e1 (Y I)))⟩,
   ⟨⟨[⟨41,fun _=>tV (cv l ((i:Int).toNat*9+0)),some 21⟩],_,0,0,I,⟨(fun _=>I),Q⟩,I,I,I,I,I,d6 (fun sg=>h2 I (cy (o:=(i:Int).toNat*9+0) (n:=(i:Int).toNat*9+7) rG I (.tail _ (.tail _ (.head _))) q_e1 (Y I) I))⟩,
   ⟨⟨[⟨42,fun _=>tV (cv l ((i:Int).toNat*9+7)),some 22⟩],_,0,0,I,⟨(fun _=>I),Q⟩,I,I,I,I,I,d6 (fun sg=>h2 I (cK (r:=cg) (i:=(i:Int)) (foff:=7) j5 I I pl I (.tail _ (.tail _ (.head _))) q_e1 (Y I)))⟩,
   ⟨⟨[⟨43,fun _=>V rS e1.Table,some 23⟩],_,0,1,I,⟨(fun _=>I),Q⟩,I,I,I,I,I,fun _ sg _ _=>h2 I (me kx (Y I))⟩,
   ⟨⟨[⟨44,fun _=>V aC (e1.Table.length:Int),some 24⟩],_,0,1,I,⟨(fun _=>I),Q⟩,I,I,I,I,I,fun _ sg _ _=>h2 I (ji (Y I) hI)⟩,
   ⟨⟨[⟨39,fun _=>V rS e1.Table,some 19⟩,⟨45,fun _=>V aC (min (e1.Table.length:Int) (40:Int)),some 25⟩],_,0,1,I,⟨(fun _=>I),(fun _=>I),Q⟩,I,I,I,I,I,fun _ sg _ _=>h2 I (vj kx (Y I) (Y I) q_y1)⟩,
   ⟨⟨[⟨5,fun _=>tV (cv l ((i:Int).toNat*9+0)),none⟩],_,0,0,I,⟨(fun _=>I),Q⟩,I,I,I,I,I,fun _ sg _ _=>h2 I (fh I)⟩,
   ⟨⟨[⟨47,fun _=>tV (cv l ((i:Int).toNat*9+0)),some 27⟩],_,0,0,I,⟨(fun _=>I),Q⟩,I,I,I,I,I,d6 (fun sg=>h2 I (ne (.tail _ (.tail _ (.head _))) q_e1 (Y I)))⟩,
   ⟨⟨[⟨48,fun _=>tV (cv l ((i:Int).toNat*9+0)),some 28⟩],_,0,0,I,⟨(fun _=>I),Q⟩,I,I,I,I,I,d6 (fun sg=>h2 I (cy (o:=(i:Int).toNat*9+0) (n:=(i:Int).toNat*9+8) pQ I (.tail _ (.tail _ (.head _))) q_e1 (Y I) I))⟩,
   ⟨⟨[⟨49,fun _=>tV (cv l ((i:Int).toNat*9+8)),some 29⟩],_,0,0,I,⟨(fun _=>I),Q⟩,I,I,I,I,I,d6 (fun sg=>h2 I (cK (r:=cg) (i:=(i:Int)) (foff:=8) j5 I I ns I (.tail _ (.tail _ (.head _))) q_e1 (Y I)))⟩,
   ⟨⟨[⟨5,fun _=>tV (cv l ((i:Int).toNat*9+0)),none⟩],_,0,0,I,⟨(fun _=>I),Q⟩,I,I,I,I,I,fun _ sg _ _=>h2 I (fh I)⟩,
   ⟨⟨[⟨51,fun _=>tV (cv l ((i:Int).toNat*9+0)),some 31⟩],_,0,0,I,⟨(fun _=>I),Q⟩,I,I,I,I,I,d6 (fun sg=>h2 I (ne (.tail _ (.tail _ (.head _))) q_e1 (Y I)))⟩,
   ⟨⟨[⟨52,fun _=>tV (cv l ((i:Int).toNat*9+0)),some 32⟩],_,0,0,I,⟨(fun _=>I),Q⟩,I,I,I,I,I,d6 (fun sg=>h2 I (cy (o:=(i:Int).toNat*9+0) (n:=(i:Int).toNat*9+8) pQ I (.tail _ (.tail _ (.head _))) q_e1 (Y I) I))⟩,
   ⟨⟨[⟨53,fun _=>tV (cv l ((i:Int).toNat*9+8)),some 33⟩],_,0,0,I,⟨(fun _=>I),Q⟩,I,I,I,I,I,d6 (fun sg=>h2 I (cK (r:=cg) (i:=(i:Int)) (foff:=8) j5 I I ns I (.tail _ (.tail _ (.head _))) q_e1 (Y I)))⟩,
   ⟨⟨[⟨54,fun _=>V rS e1.Name,some 34⟩],_,0,2,I,⟨(fun _=>I),Q⟩,I,I,I,I,I,fun _ sg _ _=>h2 I (me kx (Y I))⟩,
   ⟨⟨[⟨55,fun _=>V aC (e1.Name.length:Int),some 35⟩],_,0,2,I,⟨(fun _=>I),Q⟩,I,I,I,I,I,fun _ sg _ _=>h2 I (ji (Y I) hI)⟩,
   ⟨⟨[⟨50,fun _=>V rS e1.Name,some 30⟩,⟨56,fun _=>V aC (min (e1.Name.length:Int) (40:Int)),some 36⟩],_,0,2,I,⟨(fun _=>I),(fun _=>I),Q⟩,I,I,I,I,I,fun _ sg _ _=>h2 I (vj kx (Y I) (Y I) q_y2)⟩,
   ⟨⟨[⟨20,fun _=>tV (cv l ((i:Int).toNat*9+0)),some 0⟩],_,0,0,I,⟨(fun _=>I),Q⟩,I,I,I,I,I,d6 (fun sg=>h2 I (ne (.tail _ (.tail _ (.head _))) q_e1 (Y I)))⟩,
   ⟨⟨[⟨58,fun _=>tV (cv l ((i:Int).toNat*9+0)),some 38⟩],_,0,0,I,⟨(fun _=>I),Q⟩,I,I,I,I,I,d6 (fun sg=>h2 I (cy (o:=(i:Int).toNat*9+0) (n:=(i:Int).toNat*9+3) oK I (.tail _ (.tail _ (.head _))) q_e1 (Y I) I))⟩,
   ⟨⟨[⟨59,fun _=>tV (cv l ((i:Int).toNat*9+3)),some 39⟩],_,0,0,I,⟨(fun _=>I),Q⟩,I,I,I,I,I,d6 (fun sg=>h2 I (cy (o:=(i:Int).toNat*9+3) (n:=(i:Int).toNat*9+6) rK I (.tail _ (.tail _ (.head _))) q_e1 (Y I) I))⟩,
   ⟨⟨[⟨60,fun _=>tV (cv l ((i:Int).toNat*9+6)),some 40⟩,⟨35,fun _=>V rS y,some 15⟩],_,I,⟨(fun _=>I),(fun _=>I),Q⟩,I,I,I,fun sg=>bB I (EffOK.fr2 (te (r:=cg) (i:=(i:Int)) (foff:=6) j5 I (iv kK FQ xx) I q_e1 (so q_st) (Y I) (Y I)))⟩,
   ⟨⟨[⟨21,fun _=>tV (cv l ((i:Int).toNat*9+0)),some 1⟩],_,1,1,I,⟨(fun _=>I),Q⟩,I,I,I,I,I,d6 (fun sg=>h2 I (ne (.head _) q_e2 (Y I)))⟩,
   ⟨⟨[⟨61,fun _=>tV (cv l ((i:Int).toNat*9+0)),some 42⟩],_,1,1,I,⟨(fun _=>I),Q⟩,I,I,I,I,I,d6 (fun sg=>h2 I (cy (o:=(i:Int).toNat*9+0) (n:=(i:Int).toNat*9+7) rG I (.head _) q_e2 (Y I) I))⟩,
   ⟨⟨[⟨62,fun _=>tV (cv l ((i:Int).toNat*9+7)),some 43⟩,⟨46,fun _=>V rS y1,some 26⟩],_,I,⟨(fun _=>I),(fun _=>I),Q⟩,I,I,I,fun sg=>bB I (te (r:=cg) (i:=(i:Int)) (foff:=7) j5 I FP I q_e2 (so q_st1) (Y I) (Y I))⟩,
   Q⟩⟩⟩⟩⟩⟩⟩⟩⟩⟩⟩⟩⟩⟩⟩⟩⟩⟩⟩⟩⟩⟩⟩⟩⟩⟩⟩⟩⟩⟩⟩⟩⟩⟩⟩⟩⟩⟩⟩⟩⟩⟩⟩⟩⟩ (fun sg=>?_)
  refine(show RG _ _ _ _ [_,_,_] _ from ?_);refine i6 (O' :=[eg cg 162 l c st1,bx bh 52 b lz,bx gQ 52 b1 (i8 out (M l c st1.length))]) (by first|(rw [eI (so q_st1),eI (so q_st)];done)|(rw [eI (so q_st1),eI (so q_st)];exact I)|exact I)<|ck h fun e3 q_e3 h=>d (ne (.head _) q_e3 (Y I))<|d (cy (o:=(i:Int).toNat*9+0) (n:=(i:Int).toNat*9+8) pQ I (.head _) q_e3 (Y I) I)<|ck h fun st2 q_st2 h=>lZ j5 I zc I q_e3 (so q_st2) (Y I) (Y I)<|i6 (O' :=[eg cg 162 l c st2,bx bh 52 b lz,bx gQ 52 b1 (i8 out (M l c st2.length))]) (by first|(rw [eI (so q_st2)];done)|(rw [eI (so q_st2)];exact I)|exact I)<|bu<|db A hN I<|fY<|fY ?_;exact aM (aE (ih (i+1) ({out with Nodes:=st2}:cD) ⟨cW A,h⟩) (be I))

def Bb q{R}(h:rE q=some R):cw aH 11 [V bH q] (V bH R):=by
 refine cX Tryz.func11 I<|aU<|w6 (Y I) I fun b=>aT pB qB I fun b1=>bG<|aF<|ck h fun r q_r h=>ck h fun r1 q_r1 h=>?_
 refine eh 7 [tc (tV (aj b 0)),tc (fO (aV) q.Selects),([2],fun s=>tV (M ((s.getD 0 kT).h 0).1 ((s.getD 0 kT).h 0).2 r.length)),tc (tV (aj b 1)),tc (fO (gk) q.Keys),tc (fO (gk) r1),tc (tV (aj b 0))] [false,false,true,false,false,false,false] [fun _=>[bx bH 31 b1 tK,bx bH 31 b q],fun sg=>[eg aV 55 ((sg 2).h 0).1 ((sg 2).h 0).2 r,bx bH 31 b1 tK,bx bH 31 b q]] I mixed I I I I I
  ⟨⟨[⟨1,fun _=>tV (aj b 0),none⟩],_,0,0,I,⟨(fun _=>I),Q⟩,I,I,I,I,I,fun _ sg _ _=>h2 I (lA 0 pP I I I)⟩,
  ⟨⟨[⟨9,fun _=>tV (aj b 0),some 0⟩],_,0,0,I,⟨(fun _=>I),Q⟩,I,I,I,I,I,d6 (fun sg=>h2 I (bm At I I lO (.tail _ (.head _)) (Y I)))⟩,
  ⟨⟨[⟨10,fun _=>V (dz aV) q.Selects,some 1⟩],_,I,⟨(fun _=>I),Q⟩,I,I,I,fun sg=>bB I (vF (xs:=[.tmp 10,.const (.int .i64 (4))]) (ts:=[V (dz aV) q.Selects,V aC (4:Int)]) Qc (Jk _ _ q_r) ⟨(Y I),hI,Q⟩)⟩,
  ⟨⟨[⟨1,fun _=>tV (aj b 0),none⟩],_,0,1,I,⟨(fun _=>I),Q⟩,I,I,I,I,I,fun _ sg _ _=>h2 I (lA 1 vC I I I)⟩,
  ⟨⟨[⟨12,fun _=>tV (aj b 1),some 3⟩],_,0,1,I,⟨(fun _=>I),Q⟩,I,I,I,I,I,nA (fun sg=>h2 I (bm C1 I I nQ (.tail _ (.head _)) (Y I))) (d6 (fun sg=>h2 I (bm C1 I I nQ (.tail _ (.tail _ (.head _))) (Y I))))⟩,
  ⟨⟨[⟨13,fun _=>V (dz gk) q.Keys,some 4⟩],_,1,1,I,⟨(fun _=>I),Q⟩,I,I,I,I,I,fun _ sg _ _=>h2 I (bp Qb (L7 _ _ q_r1) ⟨(Y I),hI,Q⟩)⟩,
  ⟨⟨[⟨1,fun _=>tV (aj b 0),none⟩],_,1,1,I,⟨(fun _=>I),Q⟩,I,I,I,I,I,fun _ sg _ _=>h2 I (lA 0 pP I I I)⟩,
  Q⟩⟩⟩⟩⟩⟩⟩ (fun sg=>?_)
 refine(show RG _ _ _ _ [_,_,_] _ from ?_);refine gS<|hZ At I (sR q _) I (Y I) (IE (Y I))<|bz 1 vC I<|bX C1 Aw I<|bG<|aZ<|bz 0 pP I<|d (fR At ux (.head _) I (Y I))<|d (eK qy (.tail _ (.head _)) (Y I))<|d (bt hI)<|bG<|ai<|iY (.tail _ (.head _)) fun hN=>bq<|fg<|fg<|jd ?_;refine aE (ft (aw:=fun ls i q1=>(r.drop i=ls)/\gn ls i q1=some R) (Of:=fun _ i q1=>[bx bH 31 b1 tK,bx fy 31 b (gB q1 (M ((sg 2).h 0).1 ((sg 2).h 0).2 q1.Selects.length)),eg aV 55 ((sg 2).h 0).1 ((sg 2).h 0).2 q1.Selects]) (Gf:=fun _ i q1=>[(1,tV (aj b 0)),(2,tV (aj b1 0)),(18,tV (M ((sg 2).h 0).1 ((sg 2).h 0).2 r.length)),(19,jf r),(20,aO (i:Int))]) (fun i q1 h=>?_) (fun e tl ih i q1 h=>?_) r 0 ({({q with Keys:=r1}:bD)with Selects:=r}:bD) ⟨I,h⟩) (be I)
 ·obtain⟨A,h⟩:=h
  refine dr A I<|av<|aU<|gS<|jc<|d (nK (q:=bH) (y:=q1) pB I I I I (.tail _ (.tail _ (.head _))) (fun _ _ _ ho h=>wN (oC ho (.head _)) h) (Y I))<|cU<|bX pB al I<|dh<|cQ 2 I ?_;exact aI<|aI<|so h▸oe I pB I I I
 ·obtain⟨A,h⟩:=h
  refine dq A I<|aF<|ai<|aG I<|ck h fun e1 q_e1 h=>d (mf qy mR (.tail _ (.tail _ (.head _))) (Y I) (Y I) q_e1 (Be A))<|ck h fun e2 q_e2 h=>d (cK (r:=aV) (i:=(i:Int)) (foff:=0) mR I I bZ I (.tail _ (.tail _ (.head _))) q_e2 (Y I))<|bS false cV 88<|bS false d7 86<|aT (r:=cL) (x:=eG (⟨false,false,[],(⟨[],[]⟩:fD),[],lz,lz,[]⟩:aJ) (M none 0 (([]:List er).length)) (M none 0 (([]:List kN).length))) mR yJ I fun b2=>gJ I<|hZ (r' :=aV) (x' :=e2) mR I (fx I) I (Y I) (Y I) ?_;refine(show RG _ _ _ _ [_,_,_,_,_,_] _ from ?_);refine cU<|oT<|cU<|oT<|bG<|aF<|ck h fun r2 q_r2 h=>ck h fun r3 q_r3 h=>ck h fun r4 q_r4 h=>?_
  refine eh 10 [tc (tV (aj b2 2)),tc (fO (cV) e2.Items),([2],fun s=>tV (M ((s.getD 0 kT).h 0).1 ((s.getD 0 kT).h 0).2 r2.length)),tc (tV (aj b2 5)),tc (fO (d7) e2.Joins),([5],fun s=>tV (M ((s.getD 0 kT).h 0).1 ((s.getD 0 kT).h 0).2 r3.length)),tc (tV (aj b2 8)),tc (fO (dS) e2.Group),tc (fO (dS) r4),tc (tV (aj b2 2))] [false,false,true,false,false,true,false,false,false,false] [fun _=>[bx aV 55 b2 e2,bx bH 31 b1 tK,bx fy 31 b (gB q1 (M ((sg 2).h 0).1 ((sg 2).h 0).2 q1.Selects.length)),eg aV 55 ((sg 2).h 0).1 ((sg 2).h 0).2 q1.Selects],fun sg1=>[eg cV 88 ((sg1 2).h 0).1 ((sg1 2).h 0).2 r2,bx aV 55 b2 e2,bx bH 31 b1 tK,bx fy 31 b (gB q1 (M ((sg 2).h 0).1 ((sg 2).h 0).2 q1.Selects.length)),eg aV 55 ((sg 2).h 0).1 ((sg 2).h 0).2 q1.Selects],fun sg1=>[eg d7 86 ((sg1 5).h 0).1 ((sg1 5).h 0).2 r3,eg cV 88 ((sg1 2).h 0).1 ((sg1 2).h 0).2 r2,bx aV 55 b2 e2,bx bH 31 b1 tK,bx fy 31 b (gB q1 (M ((sg 2).h 0).1 ((sg 2).h 0).2 q1.Selects.length)),eg aV 55 ((sg 2).h 0).1 ((sg 2).h 0).2 q1.Selects]] I mixed I I I I I
   ⟨⟨[⟨4,fun _=>tV (aj b2 0),none⟩],_,0,0,I,⟨(fun _=>I),Q⟩,I,I,I,I,I,fun _ sg1 _ _=>h2 I (lA 2 nS I I I)⟩,
   ⟨⟨[⟨25,fun _=>tV (aj b2 2),some 0⟩],_,0,0,I,⟨(fun _=>I),Q⟩,I,I,I,I,I,d6 (fun sg1=>h2 I (bm xo I I iO (.head _) (Y I)))⟩,
   ⟨⟨[⟨26,fun _=>V (dz cV) e2.Items,some 1⟩],_,I,⟨(fun _=>I),Q⟩,I,I,I,fun sg1=>bB I (vF (xs:=[.tmp 26,.const (.int .i64 (7))]) (ts:=[V (dz cV) e2.Items,V aC (7:Int)]) Qa (Ji _ _ q_r2) ⟨(Y I),hI,Q⟩)⟩,
   ⟨⟨[⟨4,fun _=>tV (aj b2 0),none⟩],_,0,1,I,⟨(fun _=>I),Q⟩,I,I,I,I,I,fun _ sg1 _ _=>h2 I (lA 5 s8 I I I)⟩,
   ⟨⟨[⟨28,fun _=>tV (aj b2 5),some 3⟩],_,0,1,I,⟨(fun _=>I),Q⟩,I,I,I,I,I,nA (fun sg1=>h2 I (bm BC I I mB (.head _) (Y I))) (d6 (fun sg1=>h2 I (bm BC I I mB (.tail _ (.head _)) (Y I))))⟩,
   ⟨⟨[⟨29,fun _=>V (dz d7) e2.Joins,some 4⟩],_,I,⟨(fun _=>I),Q⟩,I,I,I,fun sg1=>bB I (vF (xs:=[.tmp 29,.const (.int .i64 (3))]) (ts:=[V (dz d7) e2.Joins,V aC (3:Int)]) PZ (Jh _ _ q_r3) ⟨(Y I),hI,Q⟩)⟩,
   ⟨⟨[⟨4,fun _=>tV (aj b2 0),none⟩],_,0,2,I,⟨(fun _=>I),Q⟩,I,I,I,I,I,fun _ sg1 _ _=>h2 I (lA 8 s6 I I I)⟩,
   ⟨⟨[⟨31,fun _=>tV (aj b2 8),some 6⟩],_,0,2,I,⟨(fun _=>I),Q⟩,I,I,I,I,I,nA (fun sg1=>h2 I (bm Ar I I iN (.head _) (Y I))) (nA (fun sg1=>h2 I (bm Ar I I iN (.tail _ (.head _)) (Y I))) (d6 (fun sg1=>h2 I (bm Ar I I iN (.tail _ (.tail _ (.head _))) (Y I)))))⟩,
   ⟨⟨[⟨32,fun _=>V (dz dS) e2.Group,some 7⟩],_,2,2,I,⟨(fun _=>I),Q⟩,I,I,I,I,I,fun _ sg1 _ _=>h2 I (bp PY (L6 _ _ q_r4) ⟨(Y I),hI,Q⟩)⟩,
   ⟨⟨[⟨4,fun _=>tV (aj b2 0),none⟩],_,1,2,I,⟨(fun _=>I),Q⟩,I,I,I,I,I,fun _ sg1 _ _=>h2 I (lA 2 nS I I I)⟩,
   Q⟩⟩⟩⟩⟩⟩⟩⟩⟩⟩ (fun sg1=>?_)
  refine(show RG _ _ _ _ [_,_,_,_,_,_] _ from ?_);refine gS<|hZ xo I (sh e2 _) I (Y I) (IE (Y I))<|bz 5 s8 I<|hZ BC I (pe e2 _ _) I (Y I) (IE (Y I))<|bz 8 s6 I<|bX Ar wE I<|bG<|aZ<|bz 2 nS I<|d (fR xo ql (.head _) I (Y I))<|d (eK oW (.tail _ (.tail _ (.head _))) (Y I))<|d (bt hI)<|bG<|ai<|iY (.tail _ (.tail _ (.head _))) fun hN1=>bq<|fg<|jd<|jd<|rU ?_;refine rU<|rU ?_;refine aE (ft (aw:=fun ls1 i1 s=>(r2.drop i1=ls1)/\jV (gn tl) i q1 ls1 i1 s=some R) (Of:=fun _ i1 s=>[bx bH 31 b1 tK,bx fy 31 b (gB q1 (M ((sg 2).h 0).1 ((sg 2).h 0).2 q1.Selects.length)),eg aV 55 ((sg 2).h 0).1 ((sg 2).h 0).2 q1.Selects,bx cL 55 b2 (eG s (M ((sg1 2).h 0).1 ((sg1 2).h 0).2 s.Items.length) (M ((sg1 5).h 0).1 ((sg1 5).h 0).2 s.Joins.length)),eg cV 88 ((sg1 2).h 0).1 ((sg1 2).h 0).2 s.Items,eg d7 86 ((sg1 5).h 0).1 ((sg1 5).h 0).2 s.Joins]) (Gf:=fun _ i1 s=>[(1,tV (aj b 0)),(2,tV (aj b1 0)),(3,aO (i:Int)),(4,tV (aj b2 0)),(18,tV (M ((sg 2).h 0).1 ((sg 2).h 0).2 r.length)),(19,jf r),(20,aO (i:Int)),(38,tV (M ((sg1 2).h 0).1 ((sg1 2).h 0).2 r2.length)),(39,jf r2),(40,aO (i1:Int))]) (fun i1 s h=>?_) (fun e3 tl1 ih1 i1 s h=>?_) r2 0 ({({({e2 with Group:=r4}:aJ)with Items:=r2}:aJ)with Joins:=r3}:aJ) ⟨I,h⟩) (be I)
  ·obtain⟨hx1,h⟩:=h
   refine dr hx1 I<|av<|aZ<|bz 5 s8 I<|d (fR BC qk (.tail _ (.tail _ (.tail _ (.head _)))) I (Y I))<|d (eK uU (.tail _ (.tail _ (.tail _ (.tail _ (.tail _ (.head _)))))) (Y I))<|d (bt hI)<|bG<|ai<|iY (.tail _ (.tail _ (.tail _ (.tail _ (.tail _ (.head _)))))) fun hN2=>?_;refine bq ?_;refine aE (ft (aw:=fun ls2 i2 s1=>(s.Joins.drop i2=ls2)/\jU (gn tl) i q1 ls2 i2 s1=some R) (Of:=fun _ i2 s1=>[bx bH 31 b1 tK,bx fy 31 b (gB q1 (M ((sg 2).h 0).1 ((sg 2).h 0).2 q1.Selects.length)),eg aV 55 ((sg 2).h 0).1 ((sg 2).h 0).2 q1.Selects,bx cL 55 b2 (eG s1 (M ((sg1 2).h 0).1 ((sg1 2).h 0).2 s1.Items.length) (M ((sg1 5).h 0).1 ((sg1 5).h 0).2 s1.Joins.length)),eg cV 88 ((sg1 2).h 0).1 ((sg1 2).h 0).2 s1.Items,eg d7 86 ((sg1 5).h 0).1 ((sg1 5).h 0).2 s1.Joins]) (Gf:=fun _ i2 s1=>[(1,tV (aj b 0)),(2,tV (aj b1 0)),(3,aO (i:Int)),(4,tV (aj b2 0)),(18,tV (M ((sg 2).h 0).1 ((sg 2).h 0).2 r.length)),(19,jf r),(20,aO (i:Int)),(55,tV (M ((sg1 5).h 0).1 ((sg1 5).h 0).2 s.Joins.length)),(56,jf s.Joins),(57,aO (i2:Int))]) (fun i2 s1 h=>?_) (fun e4 tl2 ih2 i2 s1 h=>?_) s.Joins 0 s ⟨I,h⟩) (be I)
   ·obtain⟨hx2,h⟩:=h
    refine dr hx2 I<|av<|aF<|ck h fun r5 q_r5 h=>ck h fun r6 q_r6 h=>?_
    refine rl 7 (ts:=[tV (aj b2 6),V bh s1.Where,V bh r5,tV (aj b2 7),V bh s1.Having,V bh r6,tV (aj b2 6)]) mixed I I I
     ⟨rp 4 I I (lA 6 ye I I I),
     ⟨gH 71 0 I I (bm (r:=cL) (x:=eG s1 (M ((sg1 2).h 0).1 ((sg1 2).h 0).2 s1.Items.length) (M ((sg1 5).h 0).1 ((sg1 5).h 0).2 s1.Joins.length)) iR I I wL (.tail _ (.tail _ (.tail _ (.head _)))) (Y I)),
     ⟨gH 72 1 I I (bp Kd (A6 _ q_r5) ⟨(Y I),Q⟩),
     ⟨rp 4 I I (lA 7 s7 I I I),
     ⟨gH 74 3 I I (bm (r:=cL) (x:=eG s1 (M ((sg1 2).h 0).1 ((sg1 2).h 0).2 s1.Items.length) (M ((sg1 5).h 0).1 ((sg1 5).h 0).2 s1.Joins.length)) iR I I wK (.tail _ (.tail _ (.tail _ (.head _)))) (Y I)),
     ⟨gH 75 4 I I (bp Kd (A6 _ q_r6) ⟨(Y I),Q⟩),
     ⟨rp 4 I I (lA 6 ye I I I),
     Q⟩⟩⟩⟩⟩⟩⟩ ?_
    refine ma<|bX iR wG I<|bz 7 s7 I<|bX iR wF I<|bG<|aL<|bz 0 pP I<|d (fR At ux (.tail _ (.tail _ (.head _))) I (Y I))<|a8 I<|rQ<|jc<|vN<|jc<|d (nK (q:=aV) (y:=({({({({s1 with Where:=r5}:aJ)with Having:=r6}:aJ)with Items:=s1.Items}:aJ)with Joins:=s1.Joins}:aJ)) mR I I I I (.tail _ (.tail _ (.head _))) (fun _ _ _ ho h=>tf (oC ho (.tail _ (.head _))) (oC ho (.head _)) h) (Y I))<|d (bK qy mR (.tail _ (.tail _ (.tail _ (.tail _ (.tail _ (.head _)))))) (Y I) (Y I) q_e2)<|vN<|ck h fun st q_st h=>lZ mR I al I q_e2 (so q_st) (Y I) (Y I)<|fV (eI (so q_st)) 80 I<|i6 (O' :=[eg aV 55 ((sg 2).h 0).1 ((sg 2).h 0).2 st,Z d7 86 ((sg1 5).h 0).1 ((sg1 5).h 0).2 s1.Joins,Z cV 88 ((sg1 2).h 0).1 ((sg1 2).h 0).2 s1.Items,bx cL 55 b2 (eG ({({s1 with Where:=r5}:aJ)with Having:=r6}:aJ) (M ((sg1 2).h 0).1 ((sg1 2).h 0).2 s1.Items.length) (M ((sg1 5).h 0).1 ((sg1 5).h 0).2 s1.Joins.length)),bx bH 31 b1 tK,bx fy 31 b (gB q1 (M ((sg 2).h 0).1 ((sg 2).h 0).2 st.length))]) (by first|(rw [eI (so q_st)];done)|(rw [eI (so q_st)];exact I)|exact I)<|bu<|bl<|av ?_;refine aL<|d (OW (H5 A hN) I)<|a8 I<|bu<|dp<|aI<|dp<|aI<|dp<|aI<|fY<|fY ?_;exact aM (aE (ih (i+1) ({q1 with Selects:=st}:bD) ⟨cW A,h⟩) (be I))
   ·obtain⟨hx2,h⟩:=h
    refine dq hx2 I<|aF<|ai<|aG I<|ck h fun e5 q_e5 h=>d (mf uU tM (.tail _ (.tail _ (.tail _ (.tail _ (.tail _ (.head _)))))) (Y I) (Y I) q_e5 (Be hx2))<|ck h fun e6 q_e6 h=>d (cK (r:=d7) (i:=(i2:Int)) (foff:=0) tM I I bZ I (.tail _ (.tail _ (.tail _ (.tail _ (.tail _ (.head _)))))) q_e6 (Y I))<|aT tM Af I fun b3=>gJ I<|bX tM al I<|aP 8 I<|bu ?_;refine av<|ck h fun r7 q_r7 h=>?_
    refine rl 8 (ts:=[tV (aj b2 5),tV (M ((sg1 5).h 0).1 ((sg1 5).h 0).2 s1.Joins.length),aO (i2:Int),bb bh e6.On,V bh e6.On,V bh r7,tV (cv ((sg1 5).h 0).1 ((i2:Int).toNat*4+0)),tV (cv ((sg1 5).h 0).1 ((i2:Int).toNat*4+3))]) mixed I I I
     ⟨rp 4 I I (lA 5 s8 I I I),
     ⟨gH 62 0 I I (fR BC qk (.tail _ (.tail _ (.tail _ (.head _)))) I (Y I)),
     ⟨iQ I I,
     ⟨rp 8 I I (oo AW vx I I),
     ⟨mQ 3 iR I I,
     ⟨gH 66 4 I I (bp Kd (A6 _ q_r7) ⟨(Y I),Q⟩),
     ⟨ij 63 1 64 2 I I I (bK uU tM (.tail _ (.tail _ (.tail _ (.tail _ (.tail _ (.head _)))))) (Y I) (Y I) q_e6),
     ⟨gH 68 6 I I (cy (o:=(i2:Int).toNat*4+0) (n:=(i2:Int).toNat*4+3) AW I (.tail _ (.tail _ (.tail _ (.tail _ (.tail _ (.head _)))))) q_e6 (Y I) I),
     Q⟩⟩⟩⟩⟩⟩⟩⟩ ?_
    refine vN<|ck h fun st1 q_st1 h=>lZ iR I FU I q_e6 (so q_st1) (Y I) (Y I)<|fV (eI (so q_st1)) 63 I<|i6 (O' :=[eg d7 86 ((sg1 5).h 0).1 ((sg1 5).h 0).2 st1,bx bH 31 b1 tK,bx fy 31 b (gB q1 (M ((sg 2).h 0).1 ((sg 2).h 0).2 q1.Selects.length)),eg aV 55 ((sg 2).h 0).1 ((sg 2).h 0).2 q1.Selects,bx cL 55 b2 (eG s1 (M ((sg1 2).h 0).1 ((sg1 2).h 0).2 s1.Items.length) (M ((sg1 5).h 0).1 ((sg1 5).h 0).2 st1.length)),eg cV 88 ((sg1 2).h 0).1 ((sg1 2).h 0).2 s1.Items]) (by first|(rw [eI (so q_st1)];done)|(rw [eI (so q_st1)];exact I)|exact I)<|bu<|db hx2 hN2 I<|dI<|dI<|dI<|dI<|dI ?_;exact aM (aE (ih2 (i2+1) ({s1 with Joins:=st1}:aJ) ⟨cW hx2,h⟩) (be I))
  ·obtain⟨hx1,h⟩:=h
   refine dq hx1 I<|aF<|ai<|aG I<|ck h fun e7 q_e7 h=>d (mf oW lJ (.tail _ (.tail _ (.tail _ (.tail _ (.head _))))) (Y I) (Y I) q_e7 (Be hx1))<|ck h fun e8 q_e8 h=>d (cK (r:=cV) (i:=(i1:Int)) (foff:=0) lJ I I bZ I (.tail _ (.tail _ (.tail _ (.tail _ (.head _))))) q_e8 (Y I))<|aT lJ pz I fun b4=>gJ I<|bX lJ al I<|aP 6 I<|bu ?_;refine av<|ck h fun r8 q_r8 h=>?_
   refine rl 8 (ts:=[tV (aj b2 2),tV (M ((sg1 2).h 0).1 ((sg1 2).h 0).2 s.Items.length),aO (i1:Int),bb bh e8.Tree,V bh e8.Tree,V bh r8,tV (cv ((sg1 2).h 0).1 ((i1:Int).toNat*2+0)),tV (cv ((sg1 2).h 0).1 ((i1:Int).toNat*2+0))]) mixed I I I
    ⟨rp 4 I I (lA 2 nS I I I),
    ⟨gH 45 0 I I (fR xo ql (.tail _ (.tail _ (.tail _ (.head _)))) I (Y I)),
    ⟨iQ I I,
    ⟨rp 6 I I (oo pO kL I I),
    ⟨mQ 3 iR I I,
    ⟨gH 49 4 I I (bp Kd (A6 _ q_r8) ⟨(Y I),Q⟩),
    ⟨ij 46 1 47 2 I I I (bK oW lJ (.tail _ (.tail _ (.tail _ (.tail _ (.head _))))) (Y I) (Y I) q_e8),
    ⟨gH 51 6 I I (cy (o:=(i1:Int).toNat*2+0) (n:=(i1:Int).toNat*2+0) pO I (.tail _ (.tail _ (.tail _ (.tail _ (.head _))))) q_e8 (Y I) I),
    Q⟩⟩⟩⟩⟩⟩⟩⟩ ?_
   refine rQ<|ck h fun st2 q_st2 h=>lZ iR I zf I q_e8 (so q_st2) (Y I) (Y I)<|fV (eI (so q_st2)) 46 I<|i6 (O' :=[eg cV 88 ((sg1 2).h 0).1 ((sg1 2).h 0).2 st2,bx bH 31 b1 tK,bx fy 31 b (gB q1 (M ((sg 2).h 0).1 ((sg 2).h 0).2 q1.Selects.length)),eg aV 55 ((sg 2).h 0).1 ((sg 2).h 0).2 q1.Selects,bx cL 55 b2 (eG s (M ((sg1 2).h 0).1 ((sg1 2).h 0).2 st2.length) (M ((sg1 5).h 0).1 ((sg1 5).h 0).2 s.Joins.length)),eg d7 86 ((sg1 5).h 0).1 ((sg1 5).h 0).2 s.Joins]) (by first|(rw [eI (so q_st2)];done)|(rw [eI (so q_st2)];exact I)|exact I)<|bu<|db hx1 hN1 I<|dI<|dp<|dI<|dI<|dI<|dI ?_;exact aM (aE (ih1 (i1+1) ({s with Items:=st2}:aJ) ⟨cW hx1,h⟩) (be I))

end Go.Proofs.YthbdkceckjihgaaGreatDoor

