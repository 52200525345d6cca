/- db of this claim: P11. -/
import Derived.Test.YtbmmihfagmchaaaGreatRaT
import Derived.Test.YtbmmihfagmchaaaGreatRaP10
set_option linter.all false
namespace Go.Proofs.YtbmmihfagmchaaaGreat
open Go
set_option maxRecDepth 100000

def G8 e{R}(h:nv e=some R):cj bf 9 [X hf e] (ec R):=by
 refine de Tryz.func9 J<|T<|cA J<|cu<|bO<|aF<|cq h fun t q_t h=>?_
 obtain⟨r,h1t,h0t⟩:=og q_t
 have q_rg:=fun V=>(h1t V).1
 refine eC (ts:=[_,_,_,_,_,_,_,_,_,_,_,_,_,_,_,_,_,_,_,_,_,_,_]) mixed J J
  ⟨lV 1 J J (jK bZ bL J J),
  ⟨ga 0 ee J J,
  ⟨dg 4 1 J J (GG hM J),
  ⟨dg 5 2 J J (dB (D J) hI),
  ⟨dg 6 3 J J (jJ J),
  ⟨nk 1 7 4 J J J (bN J J J J (fun Z=>jK bZ bL J J)),
  ⟨ek 8 5 7 4 J J J (bN J J J J (fun Z=>d6 ee J J (ca J Z))),
  ⟨ek 9 6 7 4 J J J (bN J J J J (fun Z=>fc hM (ca J Z))),
  ⟨ek 10 7 7 4 J J J (bN J J J J (fun Z=>iK (ca J Z) hI)),
  ⟨eI 7 4 11 8 J J J (Ft J J),
  ⟨dg 12 9 J J (jJ J),
  ⟨nk 1 13 10 J J J (bN J J J J (fun Z=>lc aL J J)),
  ⟨nk 1 13 10 J J J (bN J J J J (fun Z=>jK bZ bL J J)),
  ⟨ek 15 12 13 10 J J J (bN J J J J (fun Z=>d6 ee J J (ca J Z))),
  ⟨ek 16 13 13 10 J J J (bN J J J J (fun Z=>fc hM (ca J Z))),
  ⟨ek 17 14 13 10 J J J (bN J J J J (fun Z=>cY (ca J Z) hI)),
  ⟨sN 14 11 18 15 13 10 J J J J (bN J J J J (fun Z=>cg EV (CW _ _ (q_rg Z)) ⟨(ca J Z),(ca J Z),aX⟩)),
  ⟨nk 1 13 10 J J J (bN J J J J (fun Z=>jK bZ bL J J)),
  ⟨ek 20 17 13 10 J J J (bN J J J J (fun Z=>d6 ee J J (ca J Z))),
  ⟨ek 21 18 13 10 J J J (bN J J J J (fun Z=>fc hM (ca J Z))),
  ⟨sN 19 16 22 19 13 10 J J J J (bN J J J J (fun Z=>fF (ca J Z) (ca J Z))),
  ⟨eI 13 10 23 20 J J J (ef (D J) (fun V=>(ca J V)) (fun V=>(h1t V).2) h0t),
  ⟨dg 24 21 J J (re J),
  aX⟩⟩⟩⟩⟩⟩⟩⟩⟩⟩⟩⟩⟩⟩⟩⟩⟩⟩⟩⟩⟩⟩⟩ ?_
 exact au<|hJ<|so h▸bl J J

def CS e place{R}(h:mT e place=some R):cj bf 60 [X hf e,bX place] (X hf R):=by
 refine de Tryz.func60 J<|T<|cA J<|av aL bU J fun b=>bO<|aW J<|K (eh (D J) hI)<|bn aL J<|bg J<|da h EV (CW _ _) (bQ J) fun r h=>K (cY (D J) (D J))<|aP J<|T<|bE true ai 63<|av (r:=bW) (x:=cc fQ A9) aL iz J fun b1=>bc ?_;refine au<|ba<|bw bZ bL ee J<|bg J<|bg J<|K (eh (D J) hI)<|cq h fun y q_y h=>K (vO hM cO J (D J) (D J) (D J) q_y)<|cM hM J<|K (bS hI)<|bO<|am<|br (k:=20) J fun hN=>bP<|cr<|cr<|dp ?_;refine aN (kY (hg:=fun ls i out l c=>(y.drop i=ls)/\dZ place r ls out=some R) (Of:=fun _ i out l c=>[bx hf 27 b fQ,bx bW 27 b1 (cc out (aM l c out.Nodes.length)),tip ai 63 l c out.Nodes]) (Gf:=fun _ i out l c=>[(4,tV (aq b 0)),(5,bX (IntKind.i64.wrap ((IntKind.i64.wrap (place+(1:Int)))-r))),(6,tV (aq b1 0)),(20,eE (ai) y),(21,f6 y),(22,bX (i:Int))]) (fun i out l c h=>?_) (fun e1 tl ih i out l c h=>?_) y 0 ({fQ with Nodes:=xJ}:af) none 0 ⟨J,h⟩) (bk J)
 ·obtain⟨I,h⟩:=h
  refine dt I J<|au<|T<|cn<|K (fq (q:=hf) (y:=out) aL J J J J (.tail _ (.tail _ (.head _))) (fun _ _ _ ho h=>fY (hZ ho (.head _)) h) (D J))<|aU<|aR aL aa J<|aB 4 J<|cU<|aH ?_;exact aH<|so h▸eD J aL J J J
 ·obtain⟨I,h⟩:=h
  refine dr I J<|aF<|am<|T<|ej hM cO J (dm I)<|av cO dS J fun b2=>aR cO aa J<|bO ?_;refine eT (hg:=fun n=>j3 place r (dZ place r tl) out n=some R) (Of:=fun n=>[bx hf 27 b fQ,bx ai 63 b2 n,bx bW 27 b1 (cc out (aM l c out.Nodes.length)),tip ai 63 l c out.Nodes]) (Gf:=fun n=>[(4,tV (aq b 0)),(5,bX (IntKind.i64.wrap ((IntKind.i64.wrap (place+(1:Int)))-r))),(6,tV (aq b1 0)),(8,tV (aq b2 0)),(20,eE (ai) y),(21,f6 y),(22,bX (i:Int))]) (fun n h=>?_) (fun ae=>?_)
  ·skip
   refine eT (hg:=fun n1=>jZ (dZ place r tl) out n1=some R) (Of:=fun n1=>[bx hf 27 b fQ,bx ai 63 b2 n1,bx bW 27 b1 (cc out (aM l c out.Nodes.length)),tip ai 63 l c out.Nodes]) (Gf:=fun n1=>[(4,tV (aq b 0)),(5,bX (IntKind.i64.wrap ((IntKind.i64.wrap (place+(1:Int)))-r))),(6,tV (aq b1 0)),(8,tV (aq b2 0)),(20,eE (ai) y),(21,f6 y),(22,bX (i:Int))]) (fun n1 h=>?_) (fun K1=>?_)
   ·skip
    refine aC<|bD 0 bZ J<|K (dj ee dV (.tail _ (.tail _ (.head _))) (.tail _ (.tail _ (.tail _ (.head _)))) J (D J))<|K (be cO J J bC (.tail _ (.head _)) (D J))<|K (aQ (r:=ai) (ys:=[n1]) (xs:=[.tmp 44]) hM cO J J J J J ⟨(D J),aX⟩)<|cT<|cq h fun l1 q_l1 h=>dU cO J J J J hM J J (D J) (D J) q_l1 fun l2 c1=>bD 0 bZ J<|cT<|c8 ee J (jN _ _ _) J (D J) (uH (oz (D J)))<|bc<|cP I hN J<|bq<|aH<|bm<|bm<|aA ?_;exact aY (aN (ih (i+1) ({out with Nodes:=l1}:af) l2 c1 ⟨cI I,h⟩) (bk J))
   ·skip
    refine T<|bD 2 gG J<|K (be bR J J ea (.tail _ (.head _)) (D J))<|K (dB (D J) hI)<|cw h J (fun h=>?_) (fun h=>?_)
    ·refine aC<|bD 2 gG J<|K (be bR J J ea (.tail _ (.head _)) (D J))<|bg J<|K (cY (D J) (D J))<|bD 2 gG J<|aU<|aR bR ke J<|bc<|bq<|bq<|aA<|bq ?_;exact bY (K1 (aj.mk n.Tag n.L (IntKind.i64.wrap (n.R-(IntKind.i64.wrap ((IntKind.i64.wrap (place+(1:Int)))-r)))) n.Col n.Value) h) (bk J)
    ·refine bH ?_;exact bY (K1 n h) (bk J)
  ·skip
   refine T<|bD 1 gH J<|K (be bR J J eb (.head _) (D J))<|K (dB (D J) hI)<|cw h J (fun h=>?_) (fun h=>?_)
   ·refine aC<|bD 1 gH J<|K (be bR J J eb (.head _) (D J))<|bg J<|K (cY (D J) (D J))<|bD 1 gH J<|aR bR kf J<|bc<|bq<|bq<|aA<|bq ?_;exact bY (ae (aj.mk e1.Tag (IntKind.i64.wrap (e1.L-(IntKind.i64.wrap ((IntKind.i64.wrap (place+(1:Int)))-r)))) e1.R e1.Col e1.Value) h) (bk J)
   ·refine bH<|bq<|bq<|aA<|bq ?_;exact bY (ae e1 h) (bk J)

def Ej: ∀(fu:Nat) (e:af) {R:(List af)} (h:gp fu e=some R),ev bf 27 [X hf e] true hf 27 R:=by
 intro fu
 induction fu with
 |zero=>intro e R h;exact(nn h).elim
 |succ fu ihR=>
  intro e R h
  refine ev.of Tryz.func27 J J J fun w0 S0=>T<|cA J<|bE false hf 27<|K (bF pl)<|bO<|T<|bw bZ bL ee J<|bw bZ bL ee J<|cM hM J<|K (cY (D J) hI)<|cq h fun e1 q_e1 h=>ej hM cO J q_e1<|av cO dS J fun b=>aR cO aa J<|aB 3 J<|bO ?_;refine ba<|bw fW cJ bR J<|gk J<|cw h J (fun h=>?_) (fun h=>?_)
  ·exact T<|bn aL J<|eJ (r:=hf) (ys:=[e]) (xs:=[.tmp 15]) gx aL J J J J J ⟨(D J),aX⟩ J fun l c=>bt J<|ak<|kx<|dz 2 J<|dz 16 J<|so h▸AW J J
  ·refine gg<|aF<|cq h fun r q_r h=>cq h fun r1 q_r1 h=>?_
   refine gw 8 [tc (X hf e),tc (bp ce e1.L),tc (bX e1.L),tc (X hf r),([4],fun s=>tO hf ((s.getD 0 nh).h 0).1 ((s.getD 0 nh).h 0).2 r1),tc (X hf e),tc (bp ce e1.R),tc (bX e1.R)] [false,false,false,false,true,false,false,false] [fun _=>[dX hf 27 none 0 nS],fun sg=>[tip hf 27 ((sg 4).h 0).1 ((sg 4).h 0).2 r1,dX hf 27 none 0 nS]] J mixed J J J J J
    ⟨⟨[⟨1,fun _=>bp hf e,none⟩],_,0,0,J,⟨(fun _=>J),aX⟩,J,J,J,J,J,fun _ sg _ _=>ac J (lc aL J J)⟩,
    ⟨⟨[⟨3,fun _=>bp ai e1,none⟩],_,0,0,J,⟨(fun _=>J),aX⟩,J,J,J,J,J,fun _ sg _ _=>ac J (jK gH eb J J)⟩,
    ⟨⟨[⟨18,fun _=>bp ce e1.L,some 1⟩],_,0,0,J,⟨(fun _=>J),aX⟩,J,J,J,J,J,fun _ sg _ _=>ac J (lc bR J J)⟩,
    ⟨⟨[⟨17,fun _=>X hf e,some 0⟩,⟨19,fun _=>X ce e1.L,some 2⟩],_,0,0,J,⟨(fun _=>J),(fun _=>J),aX⟩,J,J,J,J,J,fun _ sg _ _=>ac J (cg Hv (CS _ _ q_r) ⟨(D J),(D J),aX⟩)⟩,
    ⟨⟨[⟨20,fun _=>X hf r,some 3⟩],_,J,⟨(fun _=>J),aX⟩,J,J,J,fun sg=>ck J (Bz (xs:=[.tmp 20]) (ts:=[X hf r]) GA (ihR _ q_r1) ⟨(D J),aX⟩)⟩,
    ⟨⟨[⟨1,fun _=>bp hf e,none⟩],_,0,1,J,⟨(fun _=>J),aX⟩,J,J,J,J,J,fun _ sg _ _=>ac J (lc aL J J)⟩,
    ⟨⟨[⟨3,fun _=>bp ai e1,none⟩],_,0,1,J,⟨(fun _=>J),aX⟩,J,J,J,J,J,fun _ sg _ _=>ac J (jK gG ea J J)⟩,
    ⟨⟨[⟨23,fun _=>bp ce e1.R,some 6⟩],_,0,1,J,⟨(fun _=>J),aX⟩,J,J,J,J,J,fun _ sg _ _=>ac J (lc bR J J)⟩,
    aX⟩⟩⟩⟩⟩⟩⟩⟩ (fun sg=>?_)
   refine(show RG _ _ _ _ [_,_] _ from ?_);exact da h Hv (CS _ _) (bQ J) fun r2 h=>cq h fun r3 q_r3 h=>yU GA (ihR _ q_r3) ⟨(D J),aX⟩ J fun l1 c1=>aU<|cq h fun x q_x h=>dU aL J J J J gx J J (D J) (i7 (D J)) q_x fun l2 c2=>bt J<|so h▸AW J J
def Ek e{R}(h:oI e=some R):ev bf 27 [X hf e] true hf 27 R:=Ej mG e h
def AD e{R}(h:jj e=some R):ev bf 28 [X hf e] false ce 3 R:=by
 refine ev.of Tryz.func28 J J J fun w0 S0=>T<|cA J<|bE false ce 3<|K (bF pl)<|bO<|T<|bE false ce 3<|K (bF pl)<|bO<|ba<|K (bS hI)<|bO<|am<|bP<|cr<|jD ?_;refine aN (xw (hg:=fun k i out l c=>(16-i=k)/\fK e k i out=some R) (Of:=fun _ i out l c=>[dX ce 3 l c out]) (Gf:=fun _ i out l c=>[(1,bp hf e),(3,n9 l c out),(7,bX (i:Int))]) (fun i out l c h=>?_) (fun k1 ih i out l c h=>?_) 16 0 tg none 0 ⟨J,h⟩) (bk J)
 ·obtain⟨I,h⟩:=h
  exact fN<|T<|K (eO (D J) hI)<|bO<|aF<|pW (D J) (FQ I)<|d8<|ax<|ax<|cE<|au<|aW J<|bt J<|so h▸f8 J J
 ·obtain⟨I,h⟩:=h
  refine fN<|T<|K (eO (D J) hI)<|bO<|aF<|pV (D J) (FP I)<|gg<|aF<|am<|aW J<|aP J<|T<|bw bZ bL ee J<|cM hM J<|K (bS hI) ?_;refine bO ?_;refine BY (hg:=fun out1 l1 c1=>lF (fK e k1) i out1=some R) (Of:=fun out1 l1 c1=>[dX ce 3 l1 c1 out1]) (Gf:=fun out1 l1 c1=>[(1,bp hf e),(3,n9 l1 c1 out1),(7,bX (i:Int))]) (fun out1 l1 c1 h=>?_) (fun ae=>?_)
  ·skip
   refine aO<|au<|aC<|K (p3 (CD I (by decide)) (D J) hI)<|bg J<|bc ?_;exact aY (aN (ih (i+1) out1 l1 c1 ⟨CC I,h⟩) (bk J))
  ·skip
   refine br (k:=11) J fun hN1=>bP ?_;refine aN (kY (hg:=fun ls i1 out2 l2 c2=>(e.Nodes.drop i1=ls)/\j4 (fK e k1) i ls out2=some R) (Of:=fun _ i1 out2 l2 c2=>[dX ce 3 l2 c2 out2]) (Gf:=fun _ i1 out2 l2 c2=>[(1,bp hf e),(3,n9 l2 c2 out2),(4,bX (i:Int)),(7,bX (i:Int)),(11,eE (ai) e.Nodes),(12,f6 e.Nodes),(13,bX (i1:Int))]) (fun i1 out2 l2 c2 h=>?_) (fun e2 tl ih1 i1 out2 l2 c2 h=>?_) e.Nodes 0 out l c ⟨J,h⟩) (bk J)
   ·obtain⟨hx1,h⟩:=h
    refine dt hx1 J ?_;exact bY (ae out2 l2 c2 h) (bk J)
   ·obtain⟨hx1,h⟩:=h
    refine dr hx1 J<|aF<|am<|T<|ej hM cO J (dm hx1)<|av cO dS J fun b=>aR cO aa J<|aB 6 J<|bO<|T<|k6 fW cJ J ?_;refine bn bR J<|cb J<|bg J<|aI J (dv gZ dk J J)<|aI J (du bR J J)<|aI J (cB J)<|aI J (fun Z=>fF (ca J Z) (ca J Z))<|dq J<|cw h J (fun h=>?_) (fun h=>?_)
    ·refine aW J<|bg J<|K (aQ (r:=ce) (ys:=[(i:Int)]) (xs:=[.tmp 27]) ed bR J J J J J ⟨(D J),aX⟩)<|cq h fun out3 q_out3 h=>dd bR J J J J ed J J (D J) (D J) q_out3 fun l3 c3=>aP J<|d8<|bA J<|ax<|ax<|cE ?_;exact bY (ae out3 l3 c3 h) (bk J)
    ·refine bH<|cP hx1 hN1 J ?_;exact aY (aN (ih1 (i1+1) out2 l2 c2 ⟨cI hx1,h⟩) (bk J))
def FK{N:Fr}{G:gJ}{x x2:Operand}{y:af}{l:Option Nat}{c:Nat}{xs:List aj}(h:aD N G x (X bW (cc y (aM l c xs.length))))(k:aD N G x2 (tO ai l c xs)):aD N G x (X (rN hf) ((⟨xs⟩:af),aM l c xs.length)):=fun S a M=>by
 obtain⟨cs,Y,H⟩:=h S a M
 obtain⟨e0,ds,k2,k3⟩:=k S a M
 have h3:cs=[aM l c xs.length]:=H.1
 have h4:ds=[aM l c xs.length]:=by
  have hl:=(eY ai).len k3
  match ds,hl,k2 with
  |[d],_,k2=>rw [show d=aM l c xs.length from k2.symm.trans e0]
 exact⟨cs,Y,fY (h4▸k3) H,h3⟩
def Hm e{R}(h:oH e=some R):df bf 61 [X hf e] [] (fun i:OI=>X (rN hf) (R,aM (i.h 0).1 (i.h 0).2 R.Nodes.length)) (fun i=>[tip ai 63 (i.h 0).1 (i.h 0).2 R.Nodes]):=by
 exact df.of Tryz.func61 J J J fun w0 S0=>T<|cA J<|av (r:=rN hf) (x:=(fQ,aM none 0 0)) aL (fun _=>⟨bU _,J⟩) J fun b=>bO<|T<|eJ (r:=ai) (ys:=xJ) (xs:=[]) hM cO J J J J J trivial J fun l c=>bw bZ bL ee J<|cq h fun l1 q_l1 h=>dd cO J J J J hM J J (D J) (D J) q_l1 fun l2 c1=>fi<|jp 6 J<|K (bz (y:=cc ⟨l1⟩ (aM l2 c1 l1.length)) aL pg iz (⟨_,_,_,_,_,J,np,J,uH (oz (D J)),J⟩))<|aU<|cy aL J aa J (D J) (FK (x2:= .tmp 6) (D J) (D J))<|aB 2 J<|cU<|so h▸Dy J aL J J J (oi l2 c1) J J
def Hn e{R}(h:oH e=some R):df bf 61 [X hf e] [] (fun i:OI=>X bW (cc R (aM (i.h 0).1 (i.h 0).2 R.Nodes.length))) (fun i=>[dX ai 63 (i.h 0).1 (i.h 0).2 R.Nodes]):=
 Ae (t:=fun i:OI=>X (rN hf) (R,aM (i.h 0).1 (i.h 0).2 R.Nodes.length)) (fun h=>h) (fun i S S' v hv=>by
  obtain⟨cs,g1,g2⟩:=hv
  exact⟨cs,g1,g2.2,by cases (i.h 0).1<;>exact J⟩) (Hm e h)

def Gg e by1{R}(h:nu e by1=some R):cj bf 29 [X hf e,bX by1] (tT [X hf R.1,bX R.2]):=by
 refine de Tryz.func29 J<|T<|cA J<|av aL bU J fun b=>cx<|bO<|ba<|bn aL J<|mM h HA (AD _) (bQ J) fun r h l c=>K (dD ed (.head _) (D J))<|K (bS hI)<|bO<|am<|d7 (.head _) fun hN=>bP ?_;refine aN (gv (hg:=fun ls i x=>(r.drop i=ls)/\gW e by1 ls x=some R) (Of:=fun _ i x=>[dX ce 3 l c r,bx hf 27 b x]) (Gf:=fun _ i x=>[(1,bX by1),(2,bp hf e),(4,tV (aq b 0)),(12,n9 l c r),(13,f6 r),(14,bX (i:Int))]) (fun i x h=>?_) (fun e1 tl ih i x h=>?_) r 0 fQ ⟨J,h⟩) (bk J)
 ·obtain⟨I,h⟩:=h
  refine dt I J<|au<|T<|bn aL J<|cq h fun r1 q_r1 h=>pS [] _ J I3 (Hn _ q_r1) ⟨(D J),aX⟩ J fun i1=>?_;refine(show RG _ _ _ _ [_,_,_] _ from ?_);refine bE false ai 63<|av (r:=bW) (x:=cc fQ A9) aL iz J fun b1=>c8 (r' :=bW) aL J (gh J) J (D J) (D J)<|aU<|o3<|bO<|ba<|bD 0 bZ J<|K (eP ee dV (.head _) J (D J))<|K (dD hM (.tail _ (.head _)) (D J))<|K (bS hI)<|bO<|am<|d7 (.tail _ (.head _)) fun hN1=>bP<|dp<|jD<|cr<|cr<|dp ?_;refine aN (gv (hg:=fun ls1 i2 out=>(r1.Nodes.drop i2=ls1)/\fU by1 ls1 i2 out=some R) (Of:=fun _ i2 out=>[bx hf 27 b x,bx bW 27 b1 (cc out (aM (i1.h 0).1 (i1.h 0).2 out.Nodes.length)),dX ai 63 (i1.h 0).1 (i1.h 0).2 out.Nodes]) (Gf:=fun _ i2 out=>[(1,bX by1),(4,tV (aq b 0)),(8,tV (aq b1 0)),(41,n9 (i1.h 0).1 (i1.h 0).2 r1.Nodes),(42,f6 r1.Nodes),(43,bX (i2:Int))]) (fun i2 out h=>?_) (fun e2 tl1 ih1 i2 out h=>?_) r1.Nodes 0 r1 ⟨J,h⟩) (bk J)
  ·obtain⟨hx1,h⟩:=h
   refine dt hx1 J<|au<|T<|cn<|fi<|K (fq (q:=hf) (y:=out) aL J J J J (.tail _ (.tail _ (.head _))) (fun _ _ _ ho h=>fY (hZ ho (.head _)) h) (D J))<|aU<|aR aL aa J<|dh ?_;exact aG 4 J<|aH<|aH<|so h▸bv J J ⟨bb aL J J J,aS J,aX⟩
  ·obtain⟨hx1,h⟩:=h
   refine dr hx1 J<|aF<|am<|aW J<|cq h fun e3 q_e3 h=>K (vw hM cO (.tail _ (.tail _ (.head _))) (D J) (D J) q_e3 (Gt hx1))<|cq h fun e4 q_e4 h=>K (cD (r:=ai) (i:=(i2:Int)) (foff:=0) cO J J bC J (.tail _ (.tail _ (.head _))) q_e4 (D J))<|av cO dS J fun b2=>f9 J<|aR cO aa J<|aB 10 J<|bc ?_;refine au<|T<|bw fW cJ bR J<|cb J<|cw h J (fun h=>?_) (fun h=>?_)
   ·refine aC<|bD 0 bZ J<|K (eP ee dV (.tail _ (.head _)) J (D J))<|bg J<|K (bI hM cO (.tail _ (.tail _ (.head _))) (D J) (D J) q_e4)<|K (cd (o:=(i2:Int).toNat*8+0) (n:=(i2:Int).toNat*8+3) gZ J (.tail _ (.tail _ (.head _))) q_e4 (D J) J)<|K (cD (r:=ai) (i:=(i2:Int)) (foff:=3) bR J J dk J (.tail _ (.tail _ (.head _))) q_e4 (D J))<|bg J<|K (eh (D J) (D J))<|K (bI hM cO (.tail _ (.tail _ (.head _))) (D J) (D J) q_e4)<|K (cd (o:=(i2:Int).toNat*8+0) (n:=(i2:Int).toNat*8+3) gZ J (.tail _ (.tail _ (.head _))) q_e4 (D J) J)<|cn<|cq h fun st q_st h=>jA bR J oE J q_e4 (so q_st) (D J) (D J)<|eS (dM (so q_st)) 52 J<|na (O' :=[dX ai 63 (i1.h 0).1 (i1.h 0).2 st,bx hf 27 b x,bx bW 27 b1 (cc out (aM (i1.h 0).1 (i1.h 0).2 st.length))]) (by first|(rw [dM (so q_st)];done)|(rw [dM (so q_st)];exact J)|exact J)<|bc<|cP hx1 hN1 J<|aA ?_;refine aA ?_;exact aY (aN (ih1 (i2+1) ({out with Nodes:=st}:af) ⟨cI hx1,h⟩) (bk J))
   ·refine bH<|cP hx1 hN1 J ?_;exact aY (aN (ih1 (i2+1) out ⟨cI hx1,h⟩) (bk J))
 ·obtain⟨I,h⟩:=h
  refine dr I J<|aF<|am<|T<|K (bI ed bR (.head _) (D J) (D J) (dm I))<|K (cD (r:=ce) (i:=(i:Int)) (foff:=0) bR J J bC J (.head _) (dm I) (D J))<|aP J<|aW J<|K (eO (D J) hI)<|bg J ?_;refine aV J (cB J)<|aV J (fun Z=>mf (ca J Z) hI)<|fg J<|bg J<|aV J (cB J)<|aV J (cB J)<|aV J (fun Z=>eh (ca J Z) (ca J Z))<|aV J (fun Z=>eO (ca J Z) hI)<|fg J<|bg J<|aV J (cB J)<|aV J (cB J)<|aV J (fun Z=>eh (ca J Z) (ca J Z))<|aV J (fun Z=>dB (ca J Z) hI)<|fg J<|cw h J (fun h=>?_) (fun h=>?_)
  ·exact T<|K (bz aL pg bU J)<|aU<|aR aL aa J<|dh<|cZ<|ak<|cZ<|aG 4 J<|aH<|so h▸bv J J ⟨bb aL J J J,aS J,aX⟩
  ·refine bH<|cP I hN J ?_;exact aY (aN (ih (i+1) x ⟨cI I,h⟩) (bk J))

def Gp cond left outer{R}(h:nt cond left outer=some R):cj bf 10 [X hf cond,bX left,ec outer] (tT [eE (hf) R.1,eE (hf) R.2.1,eE (hf) R.2.2]):=by
 refine de Tryz.func10 J<|T<|cA J<|gb (hf)<|gb (hf)<|gb (hf)<|bO<|T<|bE true hf 27<|bE true hf 27<|bE true hf 27<|av (r:=dc) (x:=dP (List.replicate 3 []) (aM none 0 (nS.length)) (aM none 0 (nS.length)) (aM none 0 (nS.length))) wF rb J fun b=>bO<|ba<|bn aL J<|cq h fun r q_r h=>yU GA (Ek _ q_r) ⟨(D J),aX⟩ J fun l c=>K (fc gx (i7 (D J))) ?_;refine K (bS hI)<|bO<|am<|BW 19 J<|br (k:=19) J fun hN=>bP<|jD<|cr<|dp<|fO<|fO ?_;refine aN (rQ (hg:=fun ls i to1 l1 c1 l2 c2 l3 c3=>(r.drop i=ls)/\gV left outer ls to1=some R) (Of:=fun _ i to1 l1 c1 l2 c2 l3 c3=>[bx dc 66 b (dP to1 (aM l1 c1 ((d9 to1 0).length)) (aM l2 c2 ((d9 to1 1).length)) (aM l3 c3 ((d9 to1 2).length))),tip hf 27 l1 c1 (d9 to1 0),tip hf 27 l2 c2 (d9 to1 1),tip hf 27 l3 c3 (d9 to1 2)]) (Gf:=fun _ i to1 l1 c1 l2 c2 l3 c3=>[(1,bX left),(2,ec outer),(9,tV (aq b 0)),(19,eE (hf) r),(20,f6 r),(21,bX (i:Int))]) (fun i to1 l1 c1 l2 c2 l3 c3 h=>?_) (fun e tl ih i to1 l1 c1 l2 c2 l3 c3 h=>?_) r 0 ([nS,nS,nS]) none 0 none 0 none 0 ⟨J,h⟩) (bk J)
 ·obtain⟨I,h⟩:=h
  refine dt I J<|au<|aF ?_
  refine eC (ts:=[_,_,_,_,_,_,_,_,_]) mixed J J
   ⟨lV 9 J J (cm (r:=rV) (n:=3) (sz:=1) nj dC (.head _) (D J) hI J),
   ⟨dg 79 0 J J (dj dC m6 (.head _) (.tail _ (.head _)) J (D J)),
   ⟨lV 9 J J (cm (r:=rV) (n:=3) (sz:=1) nj dC (.head _) (D J) hI J),
   ⟨dg 81 2 J J (dj dC m5 (.head _) (.tail _ (.tail _ (.head _))) J (D J)),
   ⟨lV 9 J J (cm (r:=rV) (n:=3) (sz:=1) nj dC (.head _) (D J) hI J),
   ⟨dg 83 4 J J (dj dC m4 (.head _) (.tail _ (.tail _ (.tail _ (.head _)))) J (D J)),
   ⟨dg 80 1 J J (re J),
   ⟨dg 82 3 J J (re J),
   ⟨dg 84 5 J J (re J),
   aX⟩⟩⟩⟩⟩⟩⟩⟩⟩ ?_
  exact au<|hJ<|bm<|iG 6 J<|aA<|iG 7 J<|bq<|iG 8 J<|aH<|aH<|aH<|aH<|so h▸E6 J J J J
 ·obtain⟨I,h⟩:=h
  refine dr I J<|aF<|am<|T<|ej gx aL J (dm I)<|av aL bU J fun b1=>aR aL aa J<|aB 11 J<|bO<|T<|cu ?_;refine cu<|bO<|ba<|bn aL J<|mM h HA (AD _) (bQ J) fun r1 h l4 c4=>K (dD ed (.head _) (D J))<|K (bS hI)<|bO<|am<|d7 (.head _) fun hN1=>bP ?_;refine aN (ou (hg:=fun ls1 i1 low high=>(r1.drop i1=ls1)/\fb left outer (gV left outer tl) e to1 ls1 low high=some R) (Of:=fun _ i1 low high=>[dX ce 3 l4 c4 r1,bx dc 66 b (dP to1 (aM l1 c1 ((d9 to1 0).length)) (aM l2 c2 ((d9 to1 1).length)) (aM l3 c3 ((d9 to1 2).length))),tip hf 27 l1 c1 (d9 to1 0),tip hf 27 l2 c2 (d9 to1 1),tip hf 27 l3 c3 (d9 to1 2)]) (Gf:=fun _ i1 low high=>[(1,bX left),(2,ec outer),(9,tV (aq b 0)),(11,bp hf e),(12,ec low),(13,ec high),(19,eE (hf) r),(20,f6 r),(21,bX (i:Int)),(26,n9 l4 c4 r1),(27,f6 r1),(28,bX (i1:Int))]) (fun i1 low high h=>?_) (fun e1 tl1 ih1 i1 low high h=>?_) r1 0 true true ⟨J,h⟩) (bk J)
  ·obtain⟨hx1,h⟩:=h
   refine dt hx1 J<|au<|am<|aW J<|aP J<|jH h J (fun h=>?_) (fun h=>?_)
   ·refine aC<|K (cm (r:=rV) (n:=3) (sz:=1) nj dC (.tail _ (.head _)) (D J) hI J)<|K (dj dC m6 (.tail _ (.head _)) (.tail _ (.tail _ (.head _))) J (D J))<|bn aL J<|K (aQ (r:=hf) (ys:=[e]) (xs:=[.tmp 55]) gx aL J J J J J ⟨(D J),aX⟩)<|cn<|cq h fun l5 q_l5 h=>dU aL J J J J gx J J (D J) (D J) q_l5 fun l6 c5=>K (cm (r:=rV) (n:=3) (sz:=1) nj dC (.tail _ (.tail _ (.head _))) (D J) hI J)<|cn<|c8 dC J (jb _ _ _ _ _) J (D J) (uH (oz (D J)))<|bc<|aO<|cP I hN J<|aA<|aH ?_;exact aY (aN (ih (i+1) ([l5,(d9 to1 1),(d9 to1 2)]) l6 c5 l2 c2 l3 c3 ⟨cI I,h⟩) (bk J))
   ·refine aW J<|bg J<|aI J (cB J)<|aI J (pt J)<|dq J<|aP J<|jH h J (fun h=>?_) (fun h=>?_)
    ·refine T<|bn aL J<|bg J<|K (wP (D J))<|da h Jc (Gg _ _) (bQ J) fun r2 h=>bg J<|bM J J<|bM J J<|av aL bU J fun b2=>aR aL aa J<|aB 16 J<|aP J<|aC<|K (cm (r:=rV) (n:=3) (sz:=1) nj dC (.tail _ (.head _)) (D J) hI J)<|K (dj dC m5 (.tail _ (.head _)) (.tail _ (.tail _ (.tail _ (.head _)))) J (D J))<|bn aL J<|K (aQ (r:=hf) (ys:=[r2.1]) (xs:=[.tmp 74]) gx aL J J J J J ⟨(D J),aX⟩)<|cT<|cq h fun l7 q_l7 h=>dU aL J J J J gx J J (D J) (D J) q_l7 fun l8 c6=>?_;refine K (cm (r:=rV) (n:=3) (sz:=1) nj dC (.tail _ (.tail _ (.head _))) (D J) hI J)<|cn<|c8 dC J (ja _ _ _ _ _) J (D J) (uH (oz (D J)))<|bc<|aO<|cP I hN J<|aA<|aH<|bq<|aA<|bq<|bq ?_;exact aY (aN (ih (i+1) ([(d9 to1 0),l7,(d9 to1 2)]) l1 c1 l8 c6 l3 c3 ⟨cI I,h⟩) (bk J))
    ·refine aC<|K (cm (r:=rV) (n:=3) (sz:=1) nj dC (.tail _ (.head _)) (D J) hI J)<|K (dj dC m4 (.tail _ (.head _)) (.tail _ (.tail _ (.tail _ (.tail _ (.head _))))) J (D J))<|bn aL J<|K (aQ (r:=hf) (ys:=[e]) (xs:=[.tmp 47]) gx aL J J J J J ⟨(D J),aX⟩)<|kw<|cq h fun l9 q_l9 h=>dU aL J J J J gx J J (D J) (D J) q_l9 fun l10 c7=>K (cm (r:=rV) (n:=3) (sz:=1) nj dC (.tail _ (.tail _ (.head _))) (D J) hI J)<|cn<|c8 dC J (i9 _ _ _ _ _) J (D J) (uH (oz (D J)))<|bc<|aO<|cP I hN J<|aA<|aH<|bm<|bq<|bq ?_;refine bq ?_;exact aY (aN (ih (i+1) ([(d9 to1 0),(d9 to1 1),l9]) l1 c1 l2 c2 l10 c7 ⟨cI I,h⟩) (bk J))
  ·obtain⟨hx1,h⟩:=h
   refine dr hx1 J<|aF<|am<|T<|K (bI ed bR (.head _) (D J) (D J) (dm hx1))<|K (cD (r:=ce) (i:=(i1:Int)) (foff:=0) bR J J bC J (.head _) (dm hx1) (D J))<|aP J<|aC<|bg J<|bg J<|aI J (cB J)<|aI J (cB J) ?_;refine aI J (fun Z=>eO (ca J Z) (ca J Z))<|dq J<|bg J<|bg J<|aI J (cB J)<|aI J (cB J)<|aI J (fun Z=>dB (ca J Z) (ca J Z))<|dq J<|f9 J<|f9 J<|bc<|cP hx1 hN1 J ?_;exact aY (aN (ih1 (i1+1) (low&&(decide (e1<left))) (high&&(decide (left<=e1))) ⟨cI hx1,h⟩) (bk J))

end Go.Proofs.YtbmmihfagmchaaaGreat

