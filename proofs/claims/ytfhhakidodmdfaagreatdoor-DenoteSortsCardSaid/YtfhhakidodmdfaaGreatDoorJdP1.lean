/- da of this claim: P1. -/
import Derived.Test.YtfhhakidodmdfaaGreatDoorJdT
import Derived.Test.YtfhhakidodmdfaaGreatDoorJdP0
set_option linter.all false
namespace Go.Proofs.YtfhhakidodmdfaaGreatDoor
open Go
set_option maxRecDepth 100000

theorem MB(e:bL){R:Int}(h:qt e=some R):aU aO 75 [tD cB e] (bH R):=by
 refine aU.of Tryz.func75 J J J fun w0 S0=>au<|zo J (jw J)<|zo J (cq)<|aq<|ah<|au<|zo J (bB mJ J J)<|bv h fun r q_r h=>zo J (aA abg (Vf _ q_r) ⟨(ht J),aR⟩)<|aF J<|zo J (hZ J J)<|zo J (hZ J J)<|bm J<|bm J<|aq<|au<|aF J<|zo J (ei (ht J)) ?_;refine aq<|cU h J (fun h=>?_) (fun h=>?_)
 ·refine au<|zo J (cq)<|aq<|ak<|ae ?_;cases so h;exact aG J J
 ·refine dR<|au<|zo J (cq)<|aq<|ak ?_;cases so h;exact aG J J

theorem Zf(l:Option Nat)(c:Nat)(s:(List Int)){R:(List Int)}(h:jO s=some R):c9 aO 91 [qM l c s] [fq bY 3 l c s] (fun i:OI=>qM (i.h 0).1 (i.h 0).2 R) (fun i=>[fq bY 3 (i.h 0).1 (i.h 0).2 R]):=by
 refine c9.of Tryz.func91 J J J fun w0 S0=>au<|bN false bY 3<|zo J (aJ rY)<|aq<|ah<|au<|aF J<|zo J (io g9 (.tail _ (.head _)) (ht J))<|zo J (fa (ht J) hI)<|aq<|cU h J (fun h=>?_) (fun h=>?_)
 ·refine au<|aF J<|bm J<|aq<|ak<|ae<|bk ?_;cases so h;exact mU J (oi l c) J J (fun _ _ h=>h)
 ·refine dR<|ah<|au<|zo J (cq)<|aq<|ay<|n7 (.tail _ (.head _)) fun hN=>bG<|pU ?_;refine aT (eH (Z:=fun ls i=>(s.drop i=ls)∧eT s ls i=some R) (Of:=fun _ i=>[fq bY 3 l c s]) (Gf:=fun _ i=>[(0,qM l c s),(3,bH (i:Int))]) (fun i h=>?_) (fun e tl ih i h=>?_) (s.drop (1)) 1 ⟨J,h⟩) (bt J)
  ·obtain⟨hx,h⟩:=h
   refine aC<|ah<|au<|aF J<|aF J<|zo J (io g9 (.head _) (ht J))<|zo J (fG J J)<|aq<|bA (ht J) (dC hx)<|bu ?_;refine ai (ai (aN ?_));refine av<|au<|aF rfl<|bm rfl<|aq<|ak ?_;cases so h;exact mU J (oi l c) J J (fun _ _ h=>h)
  ·obtain⟨hx,h⟩:=h
   refine aC<|ah<|au<|aF J<|aF J<|zo J (io g9 (.head _) (ht J))<|zo J (fG J J)<|aq<|bz (ht J) (du hx)<|dR<|ah<|ay<|ah<|bv h fun e1 q_e1 h=>?_
   refine cJ (ts:=[_,_,_,_,_,_,_,_,_,_]) mixed J J
    ⟨ep 0 J J J (cD J),
    ⟨ep 3 J J J (cD J),
    ⟨dv 16 0 17 1 J J J J (ca g9 cv (.head _) (ht J) (ht J) (cW hx)),
    ⟨bT 18 2 J J J (fM (r:=bY) (i:=(i:Int)) (foff:=0) cv J J bQ J (.head _) (cW hx) (ht J)),
    ⟨ep 0 J J J (cD J),
    ⟨ep 3 J J J (cD J),
    ⟨bT 21 5 J J J (gK (ht J) hI),
    ⟨dv 20 4 22 6 J J J J (ca g9 cv (.head _) (ht J) (ht J) q_e1),
    ⟨bT 23 7 J J J (fM (r:=bY) (i:=(IntKind.i64.wrap ((i:Int)-(1:Int)))) (foff:=0) cv J J bQ J (.head _) q_e1 (ht J)),
    ⟨dv 19 3 24 8 J J J J (dd (ht J) (ht J)),
    aR⟩⟩⟩⟩⟩⟩⟩⟩⟩⟩ ?_
   refine av<|cU h rfl (fun h=>?_) (fun h=>?_)
   ·refine au<|aF J<|aF J<|bv h fun y q_y h=>zo J (nC g9 cv J (.head _) (ht J) (ht J) q_y)<|mH (.head _) q_y fun hv=>bm J<|aq<|ah<|au<|zo J (cq)<|aq<|ay<|bG ?_;refine aT (ID (Z:=fun k1 i1 s1 k=>(y.length-i1=k1)∧d8 i y k1 i1 s1 k=some R) (Of:=fun _ i1 s1 k=>[fq bY 3 l c s1]) (Gf:=fun _ i1 s1 k=>[(0,qM l c s1),(3,bH k),(4,tV (n9 1 l c (i:Int).toNat y.length)),(5,bH (i1:Int))]) (fun i1 s1 k h=>?_) (fun k2 ih1 i1 s1 k h=>?_) (y.length-1) 1 s (i:Int) ⟨J,h⟩) (bt J)
    ·obtain⟨hx1,h⟩:=h
     refine aC<|ah<|au<|aF J<|aF J<|zo J (C8 g9 hv.1 (ht J))<|zo J (fG J J)<|aq<|bA (ht J) (YY hx1)<|bu ?_;refine ai (ai (aN ?_));refine av<|au<|aF rfl<|aF rfl<|bv h fun y1 q_y1 h=>zo J (nC g9 cv J (.head _) (ht J) (ht J) q_y1)<|mH (.head _) q_y1 fun hv1=>bv h fun cl q_cl h=>GW cv J J g9 (fun _=>J) J q_y1 (ht J) (so q_cl)<|fy (yc q_y1 (so q_cl)) 0 J<|fy (yc q_y1 (so q_cl)) 54 J<|aq<|au<|aF J<|aF J<|bv h fun y2 q_y2 h=>zo J (jY g9 cv J (.head _) (ht J) (ht J) q_y2)<|uy q_y2<|bm J<|aq ?_;refine ak ?_;refine aD (ae (ae (aD (ae ?_))));cases so h;exact mU J (oi l c) J J (fun _ _ h=>h)
    ·obtain⟨hx1,h⟩:=h
     refine aC<|ah<|au<|aF J<|aF J<|zo J (C8 g9 hv.1 (ht J))<|zo J (fG J J)<|aq<|bz (ht J) (YX hx1)<|dR<|ah<|ay<|ah<|bv h fun e3 q_e3 h=>bv h fun e4 q_e4 h=>?_
     refine cJ (ts:=[_,_,_,_,_,_,_,_,_,_]) mixed J J
      ⟨ep 4 J J J (cD J),
      ⟨ep 5 J J J (cD J),
      ⟨dv 35 0 36 1 J J J J (mZ g9 cv J (.head _) (se q_y) (ht J) (ht J) q_e3),
      ⟨bT 37 2 J J J (fM (r:=bY) (i:=((i:Int)+(i1:Int))) (foff:=0) cv J J bQ J (.head _) (ql q_e3).2.2 (ht J)),
      ⟨ep 4 J J J (cD J),
      ⟨ep 5 J J J (cD J),
      ⟨bT 40 5 J J J (gK (ht J) hI),
      ⟨dv 39 4 41 6 J J J J (mZ g9 cv J (.head _) (se q_y) (ht J) (ht J) q_e4),
      ⟨bT 42 7 J J J (fM (r:=bY) (i:=((i:Int)+(IntKind.i64.wrap ((i1:Int)-(1:Int))))) (foff:=0) cv J J bQ J (.head _) (ql q_e4).2.2 (ht J)),
      ⟨dv 38 3 43 8 J J J J (eZ (ht J) (ht J)),
      aR⟩⟩⟩⟩⟩⟩⟩⟩⟩⟩ ?_
     refine av<|cU h rfl (fun h=>?_) (fun h=>?_)
     ·refine au<|aF J<|aF J<|aF J<|aF J<|bv h fun e5 q_e5 h=>zo J (mZ g9 cv J (.head _) (se q_y) (ht J) (ht J) q_e5)<|zo J (fM (r:=bY) (i:=((i:Int)+(i1:Int))) (foff:=0) cv J J bQ J (.head _) (ql q_e5).2.2 (ht J))<|bv h fun e6 q_e6 h=>zo J (ca g9 cv (.head _) (ht J) (ht J) q_e6)<|bv h fun st q_st h=>pf cv J an J q_e6 (so q_st) (ht J) (ht J)<|fy (jx (so q_st)) 0 J<|fy (jx (so q_st)) 45 J<|aq<|aw<|aF J<|zo J (nc (ht J) hI)<|bm J<|aQ<|ap<|av ?_;refine aw<|aF J<|zo J (AB (TA hx1 (TC hv.2)) (ht J) hI)<|bm J<|aQ ?_;exact bg (aT (ih1 (i1+1) st (IntKind.i64.wrap (k+(1:Int))) ⟨Tz hx1,h⟩) (bt J))
     ·refine bw<|ap<|av<|aw<|aF rfl<|zo rfl (AB (TA hx1 (TC hv.2)) (ht rfl) hI)<|bm rfl<|aQ ?_;exact bg (aT (ih1 (i1+1) s1 k ⟨Tz hx1,h⟩) (bt J))
   ·refine bw<|ap<|av<|aw<|aF rfl<|zo rfl (mI (cQ hx hN) rfl)<|bm rfl<|aQ ?_;exact bg (aT (ih (i+1) ⟨cP hx,h⟩) (bt J))

theorem Kp(e:bL){R:(List Int)}(h:sq e=some R):fT aO 181 [tD cB e] false bY 3 R:=by
 refine fT.of Tryz.func181 J J J fun w0 S0=>au<|zo J (jw J)<|bN false bY 3<|zo J (aJ rY)<|aq<|ah<|au<|zo J (bB mJ J J)<|bv h fun r q_r h=>zo J (aA Yn (MB _ q_r) ⟨(ht J),aR⟩)<|zo J (tE J)<|aq<|cU h J (fun h=>?_) (fun h=>?_)
 ·refine au<|bN false bY 3<|zo J (aJ rY)<|aq<|ak<|ae ?_;cases so h;exact fQ J J
 ·refine dR<|au<|bN false bY 3<|zo J (aJ rY)<|aq<|ah<|au<|zo J (cY rq nU J J)<|zo J (bB CT J J)<|zo J (iw z8 J)<|zo J (bJ hI)<|aq<|ay<|ba (k:=10) J fun hN=>bG<|iF<|pU ?_;refine aT (jL (Z:=fun ls i out l c=>(e.Nodes.drop i=ls)∧mz ls out=some R) (Of:=fun _ i out l c=>[fq bY 3 l c out]) (Gf:=fun _ i out l c=>[(3,qM l c out),(10,bR (bP) e.Nodes),(11,kg e.Nodes),(12,bH (i:Int))]) (fun i out l c h=>?_) (fun e1 tl ih i out l c h=>?_) e.Nodes 0 uI none 0 ⟨J,h⟩) (bt J)
  ·obtain⟨hx,h⟩:=h
   refine aC<|au<|zo J (fG J J)<|aq<|ah<|bA (ht J) (dC hx)<|bu ?_;refine ai (ai (aN ?_));refine av<|au<|aF rfl<|bv h fun tt q_srt h=>?_;refine SC (n:=out.length) (ys:=tt) Ix ?_ abV ?_ ?_ ?_ ?_ ?_
   ·rfl
   ·exact q_srt
   ·exact(ht J)
   ·rfl
   ·rfl
   intro hl
   refine oz hl 3 J<|oz hl 25 J<|aq<|au<|aF J<|bv h fun r1 q_r1 h=>Be [fq bY 3 l c tt] _ J abU (Zf l c _ q_r1) ⟨(ht J),aR⟩ J fun i1=>?_;refine(show RG _ _ _ _ [fq bY 3 (i1.h 0).1 (i1.h 0).2 r1] ((28,qM (i1.h 0).1 (i1.h 0).2 r1)::_)from ?_);refine bm J<|aq<|ak ?_;cases so h;exact fQ J J
  ·obtain⟨hx,h⟩:=h
   refine aC<|au<|zo J (fG J J)<|aq<|ah<|bz (ht J) (du hx)<|dR<|ah<|ay<|au<|zo J (lq z8 qP J J J (cW hx))<|zo J (bB qP J J)<|bc (r:=bP) (x:=SY) qP (fun _=>wM _) J fun b=>ax qP J an J (ht J) (ht J)<|aZ 5 J<|aq<|au<|zo J (cY pM iu J J) ?_;refine zo J (bB cv J J)<|zo J (lU J)<|aq<|cU h J (fun h=>?_) (fun h=>?_)
   ·refine aw<|aF J<|zo J (cY zB oW J J)<|zo J (bB cv J J)<|zo J (aV (r:=bY) (ys:=[e1.Col]) (xs:=[.tmp 21]) g9 cv J J J J J ⟨(ht J),aR⟩)<|bv h fun out1 q_out1 h=>cT cv J J J J g9 J J (ht J) (ht J) q_out1 fun l2 c2=>bm J<|aQ<|ap<|av<|aw<|zo rfl (mI (cQ hx hN) rfl)<|aF rfl<|aQ ?_;exact bg (aT (ih (i+1) out1 l2 c2 ⟨cP hx,h⟩) (bt J))
   ·refine bw<|ap<|av<|aw<|zo rfl (mI (cQ hx hN) rfl)<|aF rfl<|aQ ?_;exact bg (aT (ih (i+1) out l c ⟨cP hx,h⟩) (bt J))
theorem Ia(s:(List Int)){R:(List Int)}(h:cy s=some R):fT aO 73 [mf s] false bY 3 R:=by
 refine fT.of Tryz.func73 J J J fun w0 S0=>au<|bN false bY 3<|zo J (aJ rY)<|aq<|ah<|au<|aF J<|td g9 (ht J) J fun isnil hisnil=>aq<|oG (ht J) (fun hc=>?_) (fun hc=>?_)
 ·have hx:=hisnil hc
  have h:some uI=some R:=by simpa [cy,app,hx] using h
  refine au<|bN false bY 3<|zo J (aJ rY)<|aq<|ak<|ae ?_;cases so h;exact fQ J J
 ·refine dR<|au<|jZ (r:=bY) (ys:=uI) (xs:=[]) g9 cv J J J J J trivial J fun l c=>aF J<|bv h fun x q_x h=>cT cv J J J J g9 J J (ht J) (ht J) q_x fun l1 c1=>bm J<|aq<|ak ?_;cases so h;exact fQ J J
theorem RB(s:(List Int)){R:(List Int)}(h:cy s=some R):aU aO 73 [mf s] (mf R):=(Ia _ h).spec

theorem Zg{l:Option Nat}{c:Nat}{xs s:List Int}{lo:Int}{R:List Int}(hs:dx xs lo (xs.length:Int)=some s)(h:cy s=some R):c9 aO 73 [tV (n9 1 l c lo.toNat s.length)] [fq bY 3 l c xs] (fun i:OI=>qM (i.h 0).1 (i.h 0).2 R) (fun i=>[fq bY 3 (i.h 0).1 (i.h 0).2 R,fq bY 3 l c xs]):=by
 refine c9.of Tryz.func73 J J J fun w0 S0=>au<|zo J (aJ rY)<|aq<|ah<|au<|aF J<|GU (r:=bY) g9 (.head _) hs (ht J) J fun isnil hisnil=>aq<|oG (ht J) (fun hc=>?_) (fun hc=>?_)
 ·have hx:=hisnil hc
  have h:some uI=some R:=by simpa [cy,app,hx] using h
  refine au<|bN false bY 3<|zo J (aJ rY)<|aq<|ak<|ae ?_;cases so h;exact mU J (oi none 0) J J (fun _ _ h=>h)
 ·refine dR<|au<|jZ (r:=bY) (ys:=uI) (xs:=[]) g9 cv J J J J J trivial J fun l1 c1=>aF J<|bv h fun x q_x h=>E5 cv J J J J g9 J J (ht J) (.tail _ (.head _)) hs (ht J) q_x fun l2 c2=>bm J<|aq<|ak ?_;cases so h;exact mU J (oi l2 c2) J J (fun _ _ h=>h)

theorem XO(b:Nat)(l:Option Nat)(c:Nat)(stack:(List Int))(k:Int){R:(List Int)×(List Int)}(h:oF stack k=some R):c9 aO 366 [bH k,tV (aP b 0)] [bx rV 39 b (aS l c stack.length),fq bY 3 l c stack] (fun i:OI=>mf R.1) (fun i=>[bx rV 39 b (aS (i.h 0).1 (i.h 0).2 R.2.length),fq bY 3 (i.h 0).1 (i.h 0).2 R.2]):=by
 refine c9.of Tryz.func366 J J J fun w0 S0=>au<|zo J (aJ (show aI _ _ _ wO from jA))<|aq<|au<|zo J (gU eC (.head _) (ht J))<|zo J (gU eC (.head _) (ht J))<|zo J (io g9 (.tail _ (.head _)) (ht J))<|aF J<|zo J (gK (ht J) (ht J))<|bv h fun y q_y h=>zo J (nC g9 cv J (.tail _ (.head _)) (ht J) (ht J) q_y)<|mH (.tail _ (.head _)) q_y fun hv=>bI<|bv h fun r q_r h=>Be [fq bY 3 l c stack] _ J R8 (Zg q_y q_r) ⟨(ht J),aR⟩ J fun i=>?_;refine(show RG _ _ _ _ [fq bY 3 (i.h 0).1 (i.h 0).2 r,fq bY 3 l c stack,bx rV 39 b (aS l c stack.length)] _ from ?_);refine bm J<|aq<|au<|zo J (gU eC (.tail _ (.tail _ (.head _))) (ht J))<|zo J (gU eC (.tail _ (.tail _ (.head _))) (ht J))<|zo J (io g9 (.tail _ (.head _)) (ht J))<|aF J<|zo J (gK (ht J) (ht J))<|bv h fun y1 q_y1 h=>zo J (jY g9 cv J (.tail _ (.head _)) (ht J) (ht J) q_y1)<|bI<|uy q_y1<|gX<|ax eC J an J (ht J) (Rh (ht J))<|aq<|au<|aF J<|bm J<|aq ?_;refine ak<|aK<|jb<|cw 3 J<|cw 11 J<|cw 4 J<|cw 18 J<|jd 3 J<|bk<|bE<|bE ?_;cases so h;exact mU J (oi l c) J J (fun _ _ h=>h)

theorem T6(e:bL)(do1:(bo→(List Int)→Option (Int×Int))){R:Int×Int}(h:ox e do1=some R):aU aO 345 [tD cB e,(dK aO SX SW (fun(x:bo×(List Int))=>do1 x.1 x.2))] (tT [bH R.1,bH R.2]):=by
 refine aU.of Tryz.func345 J J J fun w0 S0=>au<|zo J (jw J)<|zo J (cq)<|zo J (cq)<|aq<|KY<|au<|bN false bY 3<|bc (x:=aS none 0 0) eC (fun _=>Ee) J fun b=>aq<|au<|zo J (cq)<|aq<|au<|zo J (JE (cts:=[tV (aP b 0)]) (caps:=[.tmp 6]) ⟨(ht J),aR⟩)<|bm J ?_;refine aq<|au<|zo J (cq)<|aq<|ah<|KZ<|av<|ah<|au<|zo rfl (cY rq nU rfl rfl)<|zo rfl (bB CT rfl rfl)<|zo rfl (iw z8 rfl)<|zo rfl (bJ hI)<|aq ?_;refine G6 (Z:=fun bad stack l c=>lM bad stack=some R) (Of:=fun bad stack l c=>[bx rV 39 b (aS l c stack.length),fq bY 3 l c stack]) (Gf:=fun bad stack l c=>[(6,tV (aP b 0)),(7,bH 0),(9,bH bad)]) (fun bad stack l c h=>?_) (fun K=>?_)
 ·skip
  refine av<|ah<|au<|aF rfl<|zo rfl (tE rfl)<|aq<|cU h rfl (fun h=>?_) (fun h=>?_)
  ·refine au<|aF J<|aF J<|bm J<|bm J<|aq<|ak ?_;refine ae (yl ?_);refine bk<|bk ?_;cases so h;exact cC J J J
  ·refine dR<|au<|zo J (gU eC (.head _) (ht J))<|bv h fun e1 q_e1 h=>zo J (ca g9 cv (.tail _ (.head _)) (ht J) hI q_e1)<|zo J (fM (r:=bY) (i:=(0:Int)) (foff:=0) cv J J bQ J (.tail _ (.head _)) q_e1 (ht J))<|bm J<|zo J (cq)<|aq<|ak<|yl<|bk<|bk ?_;cases so h;exact cC J J J
 ·skip
  refine ba (k:=16) J fun hN=>bG ?_;refine aT (tp (Z:=fun ls i bad1 stack1 l1 c1=>(e.Nodes.drop i=ls)∧gW do1 ls bad1 stack1=some R) (Of:=fun _ i bad1 stack1 l1 c1=>[bx rV 39 b (aS l1 c1 stack1.length),fq bY 3 l1 c1 stack1]) (Gf:=fun _ i bad1 stack1 l1 c1=>[(1,(dK aO SX SW (fun(x:bo×(List Int))=>do1 x.1 x.2))),(6,tV (aP b 0)),(7,bH 0),(8,tC 366 [tV (aP b 0)]),(9,bH bad1),(16,bR (bP) e.Nodes),(17,kg e.Nodes),(18,bH (i:Int))]) (fun i bad1 stack1 l1 c1 h=>?_) (fun e2 tl ih i bad1 stack1 l1 c1 h=>?_) e.Nodes 0 (0:Int) uI none 0 ⟨J,h⟩) (bt J)
  ·obtain⟨hx,h⟩:=h
   refine aC<|au<|zo J (fG J J)<|aq<|ah<|bA (ht J) (dC hx)<|bu ?_;refine ai (ai (aN ?_));exact cM (K bad1 stack1 l1 c1 h) (bt J)
  ·obtain⟨hx,h⟩:=h
   refine aC<|au<|zo J (fG J J)<|aq<|ah<|bz (ht J) (du hx)<|dR<|ah<|ay<|au<|zo J (lq z8 qP J J J (cW hx))<|zo J (bB qP J J)<|bc (r:=bP) (x:=SY) qP (fun _=>wM _) J fun b1=>ax qP J an J (ht J) (ht J)<|aZ 11 J<|aq<|ah<|bv h fun r q_r h=>bv h fun r1 q_r1 h=>?_
   obtain⟨r2,q_r2,h⟩:=bs h
   refine oA 12 [tc ((dK aO SX SW (fun(x:bo×(List Int))=>do1 x.1 x.2))),tc (tD bP e2),tc (tC 366 [tV (aP b 0)]),tc (bK bY e2.Tag),tc (bH e2.Tag),tc (bH r),tc (mf r1.1),tc (tT [bH r2.1,bH r2.2]),tc (tT [bH r2.1,bH r2.2]),tc (bH r2.1),tc (bH r2.2),tc (bH r2.1)] [false,false,false,false,false,false,true,false,false,false,false,false] [fun _=>[bx rV 39 b (aS l1 c1 stack1.length),fq bY 3 l1 c1 stack1],fun sg=>[bx rV 39 b (aS ((sg 6).h 0).1 ((sg 6).h 0).2 r1.2.length),fq bY 3 ((sg 6).h 0).1 ((sg 6).h 0).2 r1.2]] J mixed J J J J J
    ⟨⟨[⟨1,fun _=>(dK aO WG WF (fun(x:bo×(List Int))=>do1 x.1 x.2)),none⟩],_,0,1,J,⟨(fun _=>J),aR⟩,J,J,J,J,J,fun _ sg _ _=>aB J (cD J)⟩,
    ⟨⟨[⟨11,fun _=>bK bP e2,none⟩],_,0,1,J,⟨(fun _=>J),aR⟩,J,J,J,J,J,fun _ sg _ _=>aB J (bB qP J J)⟩,
    ⟨⟨[⟨8,fun _=>tC 366 [tV (aP b 0)],none⟩],_,0,0,J,⟨(fun _=>J),aR⟩,J,J,J,J,J,fun _ sg _ _=>aB J (cD J)⟩,
    ⟨⟨[⟨11,fun _=>bK bP e2,none⟩],_,0,0,J,⟨(fun _=>J),aR⟩,J,J,J,J,J,fun _ sg _ _=>aB J (cY pM iu J J)⟩,
    ⟨⟨[⟨26,fun _=>bK bY e2.Tag,some 3⟩],_,0,0,J,⟨(fun _=>J),aR⟩,J,J,J,J,J,fun _ sg _ _=>aB J (bB cv J J)⟩,
    ⟨⟨[⟨27,fun _=>tD bY e2.Tag,some 4⟩],_,0,0,J,⟨(fun _=>J),aR⟩,J,J,J,J,J,fun _ sg _ _=>aB J (aA OA (Dh _ q_r) ⟨(ht J),aR⟩)⟩,
    ⟨⟨[⟨25,fun _=>tC 366 [tV (aP b 0)],some 2⟩,⟨28,fun _=>tD bY r,some 5⟩],_,J,⟨(fun _=>J),(fun _=>J),aR⟩,J,J,J,fun sg=>eI J (EffOK.fr1 (EffOK.fr1 (BS (xs:=[.tmp 28]) (ts:=[tD bY r]) (cts:=[tV (aP b 0)]) [bx rV 39 b (aS l1 c1 stack1.length),fq bY 3 l1 c1 stack1] _ J ZI (XO b l1 c1 _ _ q_r1) (ht J) ⟨(ht J),aR⟩ (fun _=>J))))⟩,
    ⟨⟨[⟨23,fun _=>(dK aO WG WF (fun(x:bo×(List Int))=>do1 x.1 x.2)),some 0⟩,⟨24,fun _=>tD bP e2,some 1⟩,⟨29,fun _=>tD wN r1.1,some 6⟩],_,1,1,J,⟨(fun _=>J),(fun _=>J),(fun _=>J),aR⟩,J,J,J,J,J,fun _ sg _ _=>aB J (fN (args:=WG) (res:=WF) (f:=(fun(x:bo×(List Int))=>do1 x.1 x.2)) (x:=((e2,r1.1):bo×(List Int))) (ht J) q_r2 ⟨(ht J),(ht J),aR⟩)⟩,
    ⟨⟨[⟨30,fun _=>tT [tD bY r2.1,tD bY r2.2],some 7⟩],_,1,1,J,⟨(fun _=>J),aR⟩,J,J,J,J,J,fun _ sg _ _=>aB J (cD J)⟩,
    ⟨⟨[⟨22,fun _=>tT [tD bY r2.1,tD bY r2.2],some 8⟩],_,1,1,J,⟨(fun _=>J),aR⟩,J,J,J,J,J,fun _ sg _ _=>aB J (hZ J J)⟩,
    ⟨⟨[⟨22,fun _=>tT [tD bY r2.1,tD bY r2.2],some 8⟩],_,1,1,J,⟨(fun _=>J),aR⟩,J,J,J,J,J,fun _ sg _ _=>aB J (hZ J J)⟩,
    ⟨⟨[⟨31,fun _=>tD bY r2.1,some 9⟩],_,1,1,J,⟨(fun _=>J),aR⟩,J,J,J,J,J,fun _ sg _ _=>aB J (tA J)⟩,
    aR⟩⟩⟩⟩⟩⟩⟩⟩⟩⟩⟩⟩ (fun sg=>?_)
   refine(show RG _ _ _ _ [bx rV 39 b (aS ((sg 6).h 0).1 ((sg 6).h 0).2 r1.2.length),fq bY 3 ((sg 6).h 0).1 ((sg 6).h 0).2 r1.2] _ from ?_);refine bm J<|aq<|ah<|au<|aF J<|zo J (tE J)<|aq<|cU h J (fun h=>?_) (fun h=>?_)
   ·refine au<|aF J<|bm J<|aq<|bu ?_;refine ai (ck J (ai (ai (aN ?_))));exact cM (K r2.2 r1.2 ((sg 6).h 0).1 ((sg 6).h 0).2 h) (bt J)
   ·refine dR<|aw<|zo J (gU eC (.head _) (ht J))<|aF J<|zo J (aV (r:=bY) (ys:=[r2.1]) (xs:=[.tmp 37]) g9 cv J J J J J ⟨(ht J),aR⟩)<|bI<|bv h fun l2 q_l2 h=>cT cv J J J J g9 J J (ht J) (ht J) q_l2 fun l3 c2=>bI<|ax eC J an J (ht J) (Rh (ht J))<|aQ<|ap<|av<|aw<|zo rfl (mI (cQ hx hN) rfl)<|aF rfl<|aQ ?_;exact bg (aT (ih (i+1) bad1 l2 l3 c2 ⟨cP hx,h⟩) (bt J))

theorem Vi(tag:Int){R:Bool}(h:wk tag=some R):aU aO 123 [bH tag] (gY R):=by
 refine aU.of Tryz.func123 J J J fun w0 S0=>au<|zo J (jE)<|aq<|au<|aF J<|zo J (lU J)<|aF J<|gI J J (fun hg=>cD J)<|gI J J (fun hg=>hT (bD J hg) hI)<|gI J J (fun hg=>bJ (bD J hg))<|jK J J J J (fun hg=>cD J)<|jK J J J J (fun hg=>lL (bD J hg) hI)<|gI J J (fun hg=>qh (bD J hg) (fun hb=>(bD J (B3 hg hb))))<|zo J (yr J J)<|bm J<|aq<|ak ?_;cases so h;exact aG J J

theorem T5(kinds:(List Int))(n:bo)(l:(List Int)){R:Int×Int}(h:jp kinds n l=some R):aU aO 346 [tD bP n,mf l,bK nj kinds] (tT [bH R.1,bH R.2]):=by
 refine aU.of Tryz.func346 J J J fun w0 S0=>au<|zo J (jw J)<|zo J (cq)<|zo J (cq)<|aq<|au<|zo J (cq)<|aq<|ah<|au<|aF J<|zo J (iw g9 J)<|zo J (bJ hI)<|aq<|ay<|ba (k:=12) J fun hN=>bG ?_;refine aT (nO (Z:=fun ls i own=>(l.drop i=ls)∧lO kinds n ls own=some R) (Of:=fun _ i own=>[]) (Gf:=fun _ i own=>[(2,bK nj kinds),(3,bK bP n),(7,bH own),(12,mf l),(13,kg l),(14,bH (i:Int))]) (fun i own h=>?_) (fun e tl ih i own h=>?_) l 0 (0:Int) ⟨J,h⟩) (bt J)
 ·obtain⟨hx,h⟩:=h
  refine aC<|au<|zo J (fG J J)<|aq<|ah<|bA (ht J) (dC hx)<|bu ?_;refine ai (ai (aN ?_));refine av<|au<|aF rfl<|bm rfl<|aq<|au<|zo rfl (cq)<|aq<|ah<|ay<|au<|zo rfl (cY pM iu rfl rfl)<|zo rfl (bB cv rfl rfl)<|zo rfl (lU rfl)<|bm rfl<|aq<|cU h rfl (fun h=>?_) (fun h=>?_)
  ·refine au<|zo J (cY EK sZ J J)<|zo J (cY fR cg J J)<|zo J (bB cv J J)<|bm J<|zo J (cq)<|aq<|ak ?_;refine aD (ae ?_);cases so h;exact cC J J J
  ·refine au<|zo J (cY pM iu J J)<|zo J (bB cv J J)<|zo J (lU J)<|bm J<|aq<|cU h J (fun h=>?_) (fun h=>?_)
   ·refine au<|zo J (bB eC J J)<|zo J (cY zB oW J J)<|zo J (bB cv J J)<|bv h fun e1 q_e1 h=>zo J (lq g9 cv J J J q_e1)<|zo J (bB cv J J)<|bm J<|zo J (cq)<|aq<|ak ?_;refine aD (ae ?_);cases so h;exact cC J J J
   ·refine au<|zo J (cY pM iu J J)<|zo J (bB cv J J)<|bv h fun r q_r h=>zo J (aA abk (Vi _ q_r) ⟨(ht J),aR⟩)<|bm J<|aq<|cU h J (fun h=>?_) (fun h=>?_)
    ·refine aw<|zo J (cq)<|zo J (cq)<|aQ<|ap<|av<|ah<|au<|aF rfl<|zo rfl (lU rfl)<|aF rfl<|gI rfl rfl (fun hg=>cD J)<|gI J J (fun hg=>eZ (bD J hg) hI)<|gI J J (fun hg=>bJ (bD J hg))<|jK J J J J (fun hg=>cD J)<|jK J J J J (fun hg=>cD J)<|jK J J J J (fun hg=>eZ (bD J hg) (bD J hg))<|gI J J (fun hg=>qh (bD J hg) (fun hb=>(bD J (B3 hg hb))))<|zo J (yr J J)<|aq<|cU h J (fun h=>?_) (fun h=>?_)
     ·refine au<|zo J (cq)<|zo J (cq)<|aq<|ak<|ae ?_;cases so h;exact cC J J J
     ·refine dR<|au<|aF J<|bm J<|zo J (cq)<|aq<|ak ?_;cases so h;exact cC J J J
    ·refine au<|zo J (cY pM iu J J)<|zo J (bB cv J J)<|zo J (lU J)<|aF J<|gI J J (fun hg=>cY pM iu J J)<|gI J J (fun hg=>bM cv J J (bD J hg))<|gI J J (fun hg=>dd (bD J hg) hI)<|zo J (yr J J)<|aF J<|gI J J (fun hg=>cY pM iu J J)<|gI J J (fun hg=>bM cv J J (bD J hg))<|gI J J (fun hg=>dd (bD J hg) hI)<|zo J (yr J J)<|bm J<|aq<|cU h J (fun h=>?_) (fun h=>?_)
     ·refine aw<|zo J (cq)<|aQ<|ap<|av<|ah<|au<|aF rfl<|zo rfl (lU rfl)<|aF rfl<|gI rfl rfl (fun hg=>cD J)<|gI J J (fun hg=>eZ (bD J hg) hI)<|gI J J (fun hg=>bJ (bD J hg))<|jK J J J J (fun hg=>cD J)<|jK J J J J (fun hg=>cD J)<|jK J J J J (fun hg=>eZ (bD J hg) (bD J hg))<|gI J J (fun hg=>qh (bD J hg) (fun hb=>(bD J (B3 hg hb))))<|zo J (yr J J)<|aq<|cU h J (fun h=>?_) (fun h=>?_)
      ·refine au<|zo J (cq)<|zo J (cq)<|aq<|ak<|ae ?_;cases so h;exact cC J J J
      ·refine dR<|au<|aF J<|bm J<|zo J (cq)<|aq<|ak ?_;cases so h;exact cC J J J
     ·refine bw<|ap<|av<|ah<|au<|aF rfl<|zo rfl (lU rfl)<|aF rfl<|gI rfl rfl (fun hg=>cD J)<|gI J J (fun hg=>eZ (bD J hg) hI)<|gI J J (fun hg=>bJ (bD J hg))<|jK J J J J (fun hg=>cD J)<|jK J J J J (fun hg=>cD J)<|jK J J J J (fun hg=>eZ (bD J hg) (bD J hg))<|gI J J (fun hg=>qh (bD J hg) (fun hb=>(bD J (B3 hg hb))))<|zo J (yr J J)<|aq<|cU h J (fun h=>?_) (fun h=>?_)
      ·refine au<|zo J (cq)<|zo J (cq)<|aq<|ak<|ae ?_;cases so h;exact cC J J J
      ·refine dR<|au<|aF J<|bm J<|zo J (cq)<|aq<|ak ?_;cases so h;exact cC J J J
 ·obtain⟨hx,h⟩:=h
  refine aC<|au<|zo J (fG J J)<|aq<|ah<|bz (ht J) (du hx)<|dR<|ah<|ay<|au<|zo J (lq g9 cv J J J (cW hx))<|zo J (bB cv J J)<|bm J<|aq<|ay<|au<|aF J<|zo J (lU J) ?_;refine aF J<|gI J J (fun hg=>cD J)<|gI J J (fun hg=>cD J)<|gI J J (fun hg=>dd (bD J hg) (bD J hg))<|zo J (yr J J)<|bm J<|aq<|cU h J (fun h=>?_) (fun h=>?_)
  ·refine bw<|ap<|ap<|av<|aw<|zo rfl (mI (cQ hx hN) rfl)<|aF rfl<|aQ ?_;exact bg (aT (ih (i+1) own ⟨cP hx,h⟩) (bt J))
  ·refine au<|aF J<|zo J (lU J)<|bm J<|aq<|cU h J (fun h=>?_) (fun h=>?_)
   ·refine aw<|aF J<|bm J<|aQ<|ap<|ap<|av<|aw<|zo rfl (mI (cQ hx hN) rfl)<|aF rfl<|aQ ?_;exact bg (aT (ih (i+1) e ⟨cP hx,h⟩) (bt J))
   ·refine aw<|zo J (cq)<|aQ<|ap<|ap<|av<|aw<|zo rfl (mI (cQ hx hN) rfl)<|aF rfl<|aQ ?_;exact bg (aT (ih (i+1) uH ⟨cP hx,h⟩) (bt J))

theorem Id(e:bL)(kinds:(List Int)){R:Int×Int}(h:sl e kinds=some R):aU aO 285 [tD cB e,mf kinds] (tT [bH R.1,bH R.2]):=by
 refine aU.of Tryz.func285 J J J fun w0 S0=>au<|zo J (jw J)<|zo J (jw J)<|zo J (cq)<|zo J (cq)<|aq<|ah<|au<|zo J (bB mJ J J)<|bv h fun r q_r h=>zo J (aA Yn (MB _ q_r) ⟨(ht J),aR⟩)<|bm J<|aq<|au<|aF J<|zo J (tE J)<|aq ?_;refine cU h J (fun h=>?_) (fun h=>?_)
 ·refine au<|aF J<|zo J (cq)<|bm J<|aq<|ak<|ae ?_;cases so h;exact cC J J J
 ·refine dR<|ah<|au<|zo J (bB eC J J)<|zo J (iw g9 J)<|zo J (bJ hI)<|aq<|ay<|ba (k:=16) J fun hN=>bG ?_;refine aT (eH (Z:=fun ls i=>(kinds.drop i=ls)∧pN e kinds ls=some R) (Of:=fun _ i=>[]) (Gf:=fun _ i=>[(2,bK cB e),(3,bK nj kinds),(16,mf kinds),(17,kg kinds),(18,bH (i:Int))]) (fun i h=>?_) (fun e1 tl ih i h=>?_) kinds 0 ⟨J,h⟩) (bt J)
  ·obtain⟨hx,h⟩:=h
   refine aC<|au<|zo J (fG J J)<|aq<|ah<|bA (ht J) (dC hx)<|bu ?_;refine ai (ai (aN ?_));refine av<|ah<|au<|zo rfl (bB mJ rfl rfl)<|bv h fun r1 q_r1 h=>iv Wp (Kp _ q_r1) ⟨(ht J),aR⟩ J fun l c=>zo J (io g9 (.head _) (ht J))<|zo J (bJ hI)<|aq<|ay<|n7 (.head _) fun hN1=>bG ?_;refine aT (eH (Z:=fun ls1 i1=>(r1.drop i1=ls1)∧my e kinds ls1=some R) (Of:=fun _ i1=>[fq bY 3 l c r1]) (Gf:=fun _ i1=>[(2,bK cB e),(3,bK nj kinds),(30,qM l c r1),(31,kg r1),(32,bH (i1:Int))]) (fun i1 h=>?_) (fun e2 tl1 ih1 i1 h=>?_) r1 0 ⟨J,h⟩) (bt J)
   ·obtain⟨hx1,h⟩:=h
    refine aC<|au<|zo J (fG J J)<|aq<|ah<|bA (ht J) (dC hx1)<|bu ?_;refine ai (ai (aN ?_));refine av<|au<|zo rfl (bB mJ rfl rfl)<|zo rfl ((show bO _ _ _ _ ((dK aO SX SW (fun(x:bo×(List Int))=>(jp kinds) x.1 x.2)))from fW (cts:=[bK nj kinds]) (caps:=[.tmp 3]) ZL ⟨(ht J),aR⟩ (fun x y h=>T5 _ _ _ h)))<|bv h fun r2 q_r2 h=>zo J (aA ZM (T6 _ _ q_r2) ⟨(ht J),(ht J),aR⟩)<|zo J (hZ J J)<|zo J (hZ J J)<|bm J<|bm J<|aq<|ak<|bk ?_;cases so h;exact cC J J J
   ·obtain⟨hx1,h⟩:=h
    refine aC<|au<|zo J (fG J J)<|aq<|ah<|bz (ht J) (du hx1)<|dR<|ah<|ay<|au<|zo J (ca g9 cv (.head _) (ht J) (ht J) (cW hx1))<|zo J (fM (r:=bY) (i:=(i1:Int)) (foff:=0) cv J J bQ J (.head _) (cW hx1) (ht J))<|bm J<|aq<|au<|aF J<|zo J (bB eC J J)<|zo J (iw g9 J) ?_;refine zo J (hT (ht J) (ht J))<|aq<|cU h J (fun h=>?_) (fun h=>?_)
    ·refine au<|zo J (cq)<|zo J (cq)<|aq<|ak ?_;refine aD (ae (ae (aD (ae ?_))));refine bk ?_;cases so h;exact cC J J J
    ·refine bw<|ap<|av<|aw<|zo rfl (mI (cQ hx1 hN1) rfl)<|aF rfl<|aQ ?_;exact bg (aT (ih1 (i1+1) ⟨cP hx1,h⟩) (bt J))
  ·obtain⟨hx,h⟩:=h
   refine aC<|au<|zo J (fG J J)<|aq<|ah<|bz (ht J) (du hx)<|dR<|ah<|ay<|au<|zo J (lq g9 cv J J J (cW hx))<|zo J (bB cv J J)<|bm J<|aq<|au<|aF J<|zo J (fa (ht J) hI)<|aF J ?_;refine gI J J (fun hg=>cD J)<|gI J J (fun hg=>jm (bD J hg) hI)<|zo J (yr J J)<|aq<|cU h J (fun h=>?_) (fun h=>?_)
   ·refine au<|zo J (cq)<|zo J (cq)<|aq<|ak ?_;refine aD (ae (ae (aD (ae ?_))));cases so h;exact cC J J J
   ·refine bw<|ap<|av<|aw<|zo rfl (mI (cQ hx hN) rfl)<|aF rfl<|aQ ?_;exact bg (aT (ih (i+1) ⟨cP hx,h⟩) (bt J))

end Go.Proofs.YtfhhakidodmdfaaGreatDoor

