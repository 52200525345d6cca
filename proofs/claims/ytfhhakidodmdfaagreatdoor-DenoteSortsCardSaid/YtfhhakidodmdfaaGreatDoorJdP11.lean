/- da of this claim: P11. -/
import Derived.Test.YtfhhakidodmdfaaGreatDoorJdT
import Derived.Test.YtfhhakidodmdfaaGreatDoorJdP10
set_option linter.all false
namespace Go.Proofs.YtfhhakidodmdfaaGreatDoor
open Go
set_option maxRecDepth 100000

theorem Zl(b:Nat)(ix:OI)(r:cX)(n:am){R:(List (List ac))×Int}(h:i6 r n=some R):c9 aO 55 [tV (aP b 0),tD aL n] (jn b r ix) (fun _:OI=>tT [bR (cK) R.1,bH R.2]) (fun _=>(jn b r ix)):=by
 refine c9.of Tryz.func55 J J J fun w0 S0=>?_;refine(show CG _ _ _ [bx (rH eD [(1,aS (ix.h 0).1 (ix.h 0).2 r.rows.length),(2,aS (ix.h 1).1 (ix.h 1).2 r.width.length)]) 96 b r,d5 d7 32 (ix.h 0).1 (ix.h 0).2 r.rows,d5 bY 3 (ix.h 1).1 (ix.h 1).2 r.width] _ from ?_);refine au<|zo J (jw J)<|zo J (aJ (show aI _ _ _ uj from jA))<|zo J (cq)<|aq<|au<|bN false cK 43<|zo J (aJ rY)<|aq<|ah<|ah<|bv h fun e q_e h=>?_
 refine cJ (ts:=[_,_,_,_,_,_,_,_,_,_]) mixed J J
  ⟨ep 0 J J J (cD J),
  ⟨bT 14 0 J J J (dG (ht J)),
  ⟨bT 15 1 J J J (kG 1 qq J J J),
  ⟨bT 16 2 J J J (di yw J (.tail _ (.head _)) (.tail _ (.tail _ (.head _))) (ht J)),
  ⟨ep 3 J J J (cY jR dX J J),
  ⟨bT 18 4 J J J (bB cv J J),
  ⟨dv 17 3 19 5 J J J J (bp p8 hJ J (k7 (ht J)) (ht J) q_e),
  ⟨bT 20 6 J J J (bB hJ J J),
  ⟨bT 21 7 J J J (iw gR J),
  ⟨OX J J (bJ hI),
  aR⟩⟩⟩⟩⟩⟩⟩⟩⟩⟩ ?_
 refine av<|ay<|ba (k:=21) J fun hN=>bG ?_;refine aT (jL (Z:=fun ls i out l c=>(e.drop i=ls)∧fE n ls out=some R) (Of:=fun _ i out l c=>[fq cK 43 l c out,bx (rH eD [(1,aS (ix.h 0).1 (ix.h 0).2 r.rows.length),(2,aS (ix.h 1).1 (ix.h 1).2 r.width.length)]) 96 b r,d5 d7 32 (ix.h 0).1 (ix.h 0).2 r.rows,d5 bY 3 (ix.h 1).1 (ix.h 1).2 r.width]) (Gf:=fun _ i out l c=>[(3,bK aL n),(6,qM l c out),(21,bR (cK) e),(22,kg e),(23,bH (i:Int))]) (fun i out l c h=>?_) (fun e1 tl ih i out l c h=>?_) e 0 Ft none 0 ⟨J,h⟩) (bt J)
 ·obtain⟨hx,h⟩:=h
  refine aC<|au<|zo J (fG J J)<|aq<|ah<|bA (ht J) (dC hx)<|bu ?_;refine ai (ai (aN ?_));refine av<|au<|aF rfl<|bm rfl<|zo rfl (cq)<|aq<|ak<|jb<|cw 6 rfl<|cw 53 rfl<|cw 4 rfl<|jd 4 rfl<|bk<|aK<|aK<|aK ?_;cases so h;exact eg (ts:=[bR (cK) out,bH 0]) (rvs:=[.tmp 4,.tmp 5]) J J ⟨aX J,aX J,aR⟩ pm J J
 ·obtain⟨hx,h⟩:=h
  refine aC<|au<|zo J (fG J J)<|aq<|ah<|bz (ht J) (du hx)<|dR<|ah<|ay<|au<|zo J (lq gR cO J J J (cW hx))<|zo J (bB cO J J)<|bm J<|aq<|au<|bN false af 46<|zo J (aJ rY)<|aQ ?_;refine av<|ah<|au<|zo rfl (cY s4 oT rfl rfl)<|zo rfl (bB CS rfl rfl)<|zo rfl (iw Bn rfl)<|zo rfl (bJ hI)<|aq<|ay<|ba (k:=28) J fun hN1=>bG<|kL<|kL<|kL<|pg<|kL ?_;refine aT (jL (Z:=fun ls1 i1 y l1 c1=>(n.Items.drop i1=ls1)∧gE (fE n tl) e1 out ls1 y=some R) (Of:=fun _ i1 y l1 c1=>[fq cK 43 l c out,fq af 46 l1 c1 y,bx (rH eD [(1,aS (ix.h 0).1 (ix.h 0).2 r.rows.length),(2,aS (ix.h 1).1 (ix.h 1).2 r.width.length)]) 96 b r,d5 d7 32 (ix.h 0).1 (ix.h 0).2 r.rows,d5 bY 3 (ix.h 1).1 (ix.h 1).2 r.width]) (Gf:=fun _ i1 y l1 c1=>[(3,bK aL n),(6,qM l c out),(8,bR (af) e1),(9,qM l1 c1 y),(21,bR (cK) e),(22,kg e),(23,bH (i:Int)),(28,bR (cB) n.Items),(29,kg n.Items),(30,bH (i1:Int))]) (fun i1 y l1 c1 h=>?_) (fun e2 tl1 ih1 i1 y l1 c1 h=>?_) n.Items 0 Hf none 0 ⟨J,h⟩) (bt J)
  ·obtain⟨hx1,h⟩:=h
   refine aC<|au<|zo J (fG J J)<|aq<|ah<|bA (ht J) (dC hx1)<|bu ?_;refine ai (ai (aN ?_));refine av<|aw<|aF rfl<|aF rfl<|bI<|j8<|jt 9 rfl<|jt 49 rfl<|zo rfl (aV (r:=cK) (ys:=[y]) (xs:=[.tmp 49]) gR cO J J J J J ⟨(k7 (ht J)),aR⟩)<|bI<|bv h fun out1 q_out1 h=>cT cO J J J J gR J J (ht J) (ht J) q_out1 fun l2 c2=>bm J<|aQ<|ap<|av<|aw<|zo rfl (mI (cQ hx hN) rfl)<|aF rfl<|aQ<|bE<|bk ?_;exact bg (aT (ih (i+1) out1 l2 c2 ⟨cP hx,h⟩) (bt J))
  ·obtain⟨hx1,h⟩:=h
   refine aC<|au<|zo J (fG J J)<|aq<|ah<|bz (ht J) (du hx1)<|dR<|ah<|ay<|au<|zo J (lq Bn mJ J J J (cW hx1))<|zo J (bB mJ J J)<|bc (r:=cB) (x:=Br) mJ (fun _=>tB _) J fun b1=>ax mJ J an J (ht J) (ht J)<|aZ 11 J<|aq<|au<|zo J (bB mJ J J) ?_;refine aF J<|bv h fun r1 q_r1 h=>zo J (aA Sm (Ik _ _ q_r1) ⟨(ht J),(ht J),aR⟩)<|aF J<|zo J (hZ J J)<|zo J (hZ J J)<|bc (r:=af) (x:=hX) aH (fun _=>bf _) J fun b2=>ax aH J an J (ht J) (ht J)<|aZ 12 J<|bm J<|aq<|ah<|au<|aF J<|zo J (tE J)<|aq<|cU h J (fun h=>?_) (fun h=>?_)
   ·refine au<|aF J<|zo J (aJ (show aI _ _ _ uj from jA))<|bm J<|aq<|ak ?_;refine ae (aD (ae (ae (aD (ae (aD (ae (ae (aD (ae ?_))))))))));refine bk<|bk<|aK<|aK<|aK ?_;cases so h;exact eg (ts:=[bR (cK) ([]),bH r1.2]) (rvs:=[.tmp 4,.tmp 5]) J J ⟨aX J,aX J,aR⟩ pm J J
   ·refine dR<|aw<|aF J<|zo J (bB aH J J)<|zo J (aV (r:=af) (ys:=[r1.1]) (xs:=[.tmp 44]) gc aH J J J J J ⟨(ht J),aR⟩)<|bI<|bv h fun y1 q_y1 h=>cT aH J J J J gc J J (ht J) (ht J) q_y1 fun l3 c3=>bm J<|aQ<|ap<|av<|aw<|zo rfl (mI (cQ hx1 hN1) rfl)<|aF rfl<|aQ<|fz<|fz<|fz<|cN<|fz ?_;exact bg (aT (ih1 (i1+1) y1 l3 c3 ⟨cP hx1,h⟩) (bt J))

theorem Kr(l:(List (List ac))){R:(List (List ac))}(h:sE l=some R):fT aO 109 [bR (cK) l] false cK 43 R:=by
 refine fT.of Tryz.func109 J J J fun w0 S0=>au<|bN false cK 43<|zo J (aJ rY)<|aq<|au<|aF J<|bv h fun r q_r h=>iv Wq (Kq _ q_r) ⟨(ht J),aR⟩ J fun l1 c=>bm J<|aq<|au<|aF J<|bv h fun tt q_srt h=>?_;refine E3 (n:=r.length) v6 ?_ Sk ?_ q_srt ?_ ?_ ?_ ?_ ?_
 ·rfl
 ·rfl
 ·exact(ht J)
 ·rfl
 ·exact(show aI _ _ _ ((dK aO Fs yu (fun(x:(List ac)×(List ac))=>o6 x.1 x.2)))from(yX Vw fun x y h=>H8 _ _ h))
 ·rfl
 intro hl
 refine oz hl 5 J<|oz hl 3 J<|oz hl 6 J<|aq<|au<|aF J<|bm J<|aq<|ak ?_;cases so h;exact fQ J J
theorem X8(l:Option Nat)(c:Nat)(s:(List (List ac)))(eq:((List ac)→(List ac)→Option Bool)){R:(List (List ac))}(h:eY s eq=some R):c9 aO 186 [qM l c s,(dK aO Fs kN (fun(x:(List ac)×(List ac))=>eq x.1 x.2))] [fq cK 43 l c s] (fun i:OI=>qM (i.h 0).1 (i.h 0).2 R) (fun i=>[fq cK 43 (i.h 0).1 (i.h 0).2 R]):=by
 refine c9.of Tryz.func186 J J J fun w0 S0=>au<|bN false cK 43<|zo J (aJ rY)<|aq<|ah<|au<|aF J<|zo J (io gR (.tail _ (.head _)) (ht J))<|zo J (fa (ht J) hI)<|aq<|cU h J (fun h=>?_) (fun h=>?_)
 ·refine au<|aF J<|bm J<|aq<|ak<|ae<|bk ?_;cases so h;exact mU J (oi l c) J J (fun _ _ h=>h)
 ·refine dR<|ah<|au<|zo J (cq)<|aq<|ay<|n7 (.tail _ (.head _)) fun hN=>bG<|pU ?_;refine aT (eH (Z:=fun ls i=>(s.drop i=ls)∧cI s eq ls i=some R) (Of:=fun _ i=>[fq cK 43 l c s]) (Gf:=fun _ i=>[(0,qM l c s),(1,(dK aO Fs kN (fun(x:(List ac)×(List ac))=>eq x.1 x.2))),(5,bH (i:Int))]) (fun i h=>?_) (fun e tl ih i h=>?_) (s.drop (1)) 1 ⟨J,h⟩) (bt J)
  ·obtain⟨hx,h⟩:=h
   refine aC<|ah<|au<|aF J<|aF J<|zo J (io gR (.head _) (ht J))<|zo J (fG J J)<|aq<|bA (ht J) (dC hx)<|bu ?_;refine ai (ai (aN ?_));refine av<|au<|aF rfl<|bm rfl<|aq<|ak ?_;cases so h;exact mU J (oi l c) J J (fun _ _ h=>h)
  ·obtain⟨hx,h⟩:=h
   refine aC<|ah<|au<|aF J<|aF J<|zo J (io gR (.head _) (ht J))<|zo J (fG J J)<|aq<|bz (ht J) (du hx)<|dR<|ah<|ay<|ah<|bv h fun e1 q_e1 h=>bv h fun r q_r h=>?_
   refine cJ (ts:=[_,_,_,_,_,_,_,_,_,_,_]) mixed J J
    ⟨ep 1 J J J (cD J),
    ⟨ep 0 J J J (cD J),
    ⟨ep 5 J J J (cD J),
    ⟨dv 19 1 20 2 J J J J (ca gR cO (.head _) (ht J) (ht J) (cW hx)),
    ⟨bT 21 3 J J J (fM (r:=cK) (i:=(i:Int)) (foff:=0) cO J J bQ J (.head _) (cW hx) (ht J)),
    ⟨ep 0 J J J (cD J),
    ⟨ep 5 J J J (cD J),
    ⟨bT 24 6 J J J (gK (ht J) hI),
    ⟨dv 23 5 25 7 J J J J (ca gR cO (.head _) (ht J) (ht J) q_e1),
    ⟨bT 26 8 J J J (fM (r:=cK) (i:=(IntKind.i64.wrap ((i:Int)-(1:Int)))) (foff:=0) cO J J bQ J (.head _) q_e1 (ht J)),
    ⟨Ga 18 0 22 4 27 9 J J J J J (fN (args:=S3) (res:=CQ) (f:=(fun(x:(List ac)×(List ac))=>eq x.1 x.2)) (x:=((e,e1):(List ac)×(List ac))) (ht J) q_r ⟨(ht J),(ht J),aR⟩),
    aR⟩⟩⟩⟩⟩⟩⟩⟩⟩⟩⟩ ?_
   refine av<|cU h rfl (fun h=>?_) (fun h=>?_)
   ·refine au<|aF J<|aF J<|bv h fun y q_y h=>zo J (nC gR cO J (.head _) (ht J) (ht J) q_y)<|mH (.head _) q_y fun hv=>bm J<|aq<|ah<|au<|zo J (cq)<|aq<|ay<|bG ?_;refine aT (ID (Z:=fun k1 i1 s1 k=>(y.length-i1=k1)∧ce eq i y k1 i1 s1 k=some R) (Of:=fun _ i1 s1 k=>[fq cK 43 l c s1]) (Gf:=fun _ i1 s1 k=>[(0,qM l c s1),(1,(dK aO Fs kN (fun(x:(List ac)×(List ac))=>eq x.1 x.2))),(5,bH k),(6,tV (n9 1 l c (i:Int).toNat y.length)),(7,bH (i1:Int))]) (fun i1 s1 k h=>?_) (fun k2 ih1 i1 s1 k h=>?_) (y.length-1) 1 s (i:Int) ⟨J,h⟩) (bt J)
    ·obtain⟨hx1,h⟩:=h
     refine aC<|ah<|au<|aF J<|aF J<|zo J (C8 gR hv.1 (ht J))<|zo J (fG J J)<|aq<|bA (ht J) (YY hx1)<|bu ?_;refine ai (ai (aN ?_));refine av<|au<|aF rfl<|aF rfl<|bv h fun y1 q_y1 h=>zo J (nC gR cO J (.head _) (ht J) (ht J) q_y1)<|mH (.head _) q_y1 fun hv1=>bv h fun cl q_cl h=>GW cO J J gR (fun _=>⟨none,0,J,dF _,ln _,.inl J⟩) J q_y1 (ht J) (so q_cl)<|fy (yc q_y1 (so q_cl)) 0 J<|fy (yc q_y1 (so q_cl)) 59 J<|aq<|au<|aF J<|aF J<|bv h fun y2 q_y2 h=>zo J (jY gR cO J (.head _) (ht J) (ht J) q_y2)<|uy q_y2<|bm J<|aq ?_;refine ak ?_;refine aD (ae (ae (aD (ae ?_))));cases so h;exact mU J (oi l c) J J (fun _ _ h=>h)
    ·obtain⟨hx1,h⟩:=h
     refine aC<|ah<|au<|aF J<|aF J<|zo J (C8 gR hv.1 (ht J))<|zo J (fG J J)<|aq<|bz (ht J) (YX hx1)<|dR<|ah<|ay<|ah<|bv h fun e3 q_e3 h=>bv h fun e4 q_e4 h=>bv h fun r1 q_r1 h=>?_
     refine cJ (ts:=[_,_,_,_,_,_,_,_,_,_,_,_]) mixed J J
      ⟨ep 1 J J J (cD J),
      ⟨ep 6 J J J (cD J),
      ⟨ep 7 J J J (cD J),
      ⟨dv 39 1 40 2 J J J J (mZ gR cO J (.head _) (se q_y) (ht J) (ht J) q_e3),
      ⟨bT 41 3 J J J (fM (r:=cK) (i:=((i:Int)+(i1:Int))) (foff:=0) cO J J bQ J (.head _) (ql q_e3).2.2 (ht J)),
      ⟨ep 6 J J J (cD J),
      ⟨ep 7 J J J (cD J),
      ⟨bT 44 6 J J J (gK (ht J) hI),
      ⟨dv 43 5 45 7 J J J J (mZ gR cO J (.head _) (se q_y) (ht J) (ht J) q_e4),
      ⟨bT 46 8 J J J (fM (r:=cK) (i:=((i:Int)+(IntKind.i64.wrap ((i1:Int)-(1:Int))))) (foff:=0) cO J J bQ J (.head _) (ql q_e4).2.2 (ht J)),
      ⟨Ga 38 0 42 4 47 9 J J J J J (fN (args:=S3) (res:=CQ) (f:=(fun(x:(List ac)×(List ac))=>eq x.1 x.2)) (x:=((e3,e4):(List ac)×(List ac))) (ht J) q_r1 ⟨(ht J),(ht J),aR⟩),
      ⟨bT 48 10 J J J (ei (ht J)),
      aR⟩⟩⟩⟩⟩⟩⟩⟩⟩⟩⟩⟩ ?_
     refine av<|cU h rfl (fun h=>?_) (fun h=>?_)
     ·refine au<|aF J<|aF J<|aF J<|aF J<|bv h fun e5 q_e5 h=>zo J (mZ gR cO J (.head _) (se q_y) (ht J) (ht J) q_e5)<|zo J (fM (r:=cK) (i:=((i:Int)+(i1:Int))) (foff:=0) cO J J bQ J (.head _) (ql q_e5).2.2 (ht J))<|bv h fun e6 q_e6 h=>zo J (ca gR cO (.head _) (ht J) (ht J) q_e6)<|bv h fun st q_st h=>pf cO J an J q_e6 (so q_st) (ht J) (ht J)<|fy (jx (so q_st)) 0 J<|fy (jx (so q_st)) 50 J<|aq<|aw<|aF J<|zo J (nc (ht J) hI)<|bm J<|aQ<|ap<|av ?_;refine aw<|aF J<|zo J (AB (TA hx1 (TC hv.2)) (ht J) hI)<|bm J<|aQ ?_;exact bg (aT (ih1 (i1+1) st (IntKind.i64.wrap (k+(1:Int))) ⟨Tz hx1,h⟩) (bt J))
     ·refine bw<|ap<|av<|aw<|aF rfl<|zo rfl (AB (TA hx1 (TC hv.2)) (ht rfl) hI)<|bm rfl<|aQ ?_;exact bg (aT (ih1 (i1+1) s1 k ⟨Tz hx1,h⟩) (bt J))
   ·refine bw<|ap<|av<|aw<|aF rfl<|zo rfl (mI (cQ hx hN) rfl)<|bm rfl<|aQ ?_;exact bg (aT (ih (i+1) ⟨cP hx,h⟩) (bt J))

theorem Vk(l:(List (List ac))){R:(List (List ac))×Int}(h:rM l=some R):aU aO 108 [bR (cK) l] (tT [bR (cK) R.1,bH R.2]):=by
 refine aU.of Tryz.func108 J J J fun w0 S0=>au<|zo J (aJ (show aI _ _ _ uj from jA))<|zo J (cq)<|aq<|ah<|au<|aF J<|zo J (aV (r:=d7) (ys:=[l]) (xs:=[.tmp 5]) p8 hJ J J J J J ⟨(ht J),aR⟩)<|bv h fun r q_r h=>zo J (aA Yk (My _ q_r) ⟨(ht J),aR⟩)<|bm J<|aq<|au<|aF J<|zo J (tE J)<|aq<|cU h J (fun h=>?_) (fun h=>?_)
 ·refine au<|aF J<|zo J (aJ (show aI _ _ _ uj from jA))<|bm J<|aq<|ak<|ae ?_;cases so h;exact cC J J J
 ·refine dR<|au<|aF J<|bv h fun r1 q_r1 h=>iv Wt (Kr _ q_r1) ⟨(ht J),aR⟩ J fun l1 c=>bv h fun r2 q_r2 h=>Be [fq cK 43 l1 c r1] _ J aaP (X8 l1 c _ _ q_r2) ⟨(ht J),(yX Zx fun x y h=>Rw _ _ h),aR⟩ J fun i=>?_;refine(show RG _ _ _ _ [fq cK 43 (i.h 0).1 (i.h 0).2 r2] ((13,qM (i.h 0).1 (i.h 0).2 r2)::_)from ?_);refine bm J<|zo J (cq)<|aq<|ak<|jb<|cw 2 J<|cw 13 J<|jd 2 J<|bk ?_;cases so h;exact cC J J J

theorem Zk(b:Nat)(ix:OI)(r:cX)(n:am){R:(List (List ac))×Int}(h:iD r n=some R):c9 aO 56 [tV (aP b 0),tD aL n] (jn b r ix) (fun _:OI=>tT [bR (cK) R.1,bH R.2]) (fun _=>(jn b r ix)):=by
 refine c9.of Tryz.func56 J J J fun w0 S0=>?_;refine(show CG _ _ _ [bx (rH eD [(1,aS (ix.h 0).1 (ix.h 0).2 r.rows.length),(2,aS (ix.h 1).1 (ix.h 1).2 r.width.length)]) 96 b r,d5 d7 32 (ix.h 0).1 (ix.h 0).2 r.rows,d5 bY 3 (ix.h 1).1 (ix.h 1).2 r.width] _ from ?_);refine au<|zo J (jw J)<|zo J (aJ (show aI _ _ _ uj from jA))<|zo J (cq)<|aq<|ah<|bv h fun e q_e h=>bv h fun r1 q_r1 h=>?_
 refine cJ (ts:=[_,_,_,_,_,_,_,_,_,_,_,_,_]) mixed J J
  ⟨ep 0 J J J (cD J),
  ⟨bT 6 0 J J J (dG (ht J)),
  ⟨bT 7 1 J J J (kG 1 qq J J J),
  ⟨bT 8 2 J J J (di yw J (.head _) (.tail _ (.head _)) (ht J)),
  ⟨ep 3 J J J (cY jR dX J J),
  ⟨bT 10 4 J J J (bB cv J J),
  ⟨dv 9 3 11 5 J J J J (bp p8 hJ J (k7 (ht J)) (ht J) q_e),
  ⟨bT 12 6 J J J (bB hJ J J),
  ⟨bT 13 7 J J J (aA abm (Vk _ q_r1) ⟨(ht J),aR⟩),
  ⟨bT 14 8 J J J (hZ J J),
  ⟨bT 14 8 J J J (hZ J J),
  ⟨bT 15 9 J J J (tA J),
  ⟨bT 16 10 J J J (tA J),
  aR⟩⟩⟩⟩⟩⟩⟩⟩⟩⟩⟩⟩⟩ ?_
 refine av<|ak<|aK<|aK<|aK ?_;cases so h;exact eg (ts:=[bR (cK) r1.1,bH r1.2]) (rvs:=[.tmp 4,.tmp 5]) J J ⟨aX J,aX J,aR⟩ pm J J

theorem RT(n:Int){R:(List (List ac))}(h:gZ n=some R):fT aO 162 [tV (.slice none 0 0),bH n] false cK 43 R:=by
 refine fT.of Tryz.func162 J J J fun w0 S0=>au<|bN false cK 43<|zo J (aJ rY)<|aq ?_;refine vl (Z:=iS n=some R) (Of:=[]) (Gf:=[(0,tV (.slice none 0 0)),(1,bH n)]) (fun h=>?_) (fun K=>?_)
 ·skip
  refine yk (Z:=fun s l c=>iR s=some R) (Of:=fun s l c=>[fq cK 43 l c s]) (Gf:=fun s l c=>[(0,qM l c s)]) (fun s l c h=>?_) (fun K1=>?_)
  ·skip
   refine au<|aF J<|bm J<|aq<|ak ?_;cases so h;exact fQ J J
  ·skip
   refine au<|aF J<|aF J<|zo J (sk gR (ht J))<|aF J<|zo J (sj gR (ht J))<|zo J (gK (ht J) (ht J))<|zo J (gK (ht J) (ht J))<|bm J<|aq<|au<|aF J<|zo J (jm (ht J) hI)<|aq<|cU h J (fun h=>?_) (fun h=>?_)
   ·refine aw<|aF J<|aF J<|zo J (sk gR (ht J))<|zo J (xd gR cO (ht J) (ht J))<|aF J<|bv h fun u q_u h=>bv h fun mk q_mk h=>zN (xm (r:=cK) (x:=[]) cO J J J J gR kM (fun _=>⟨none,0,J,dF _,ln _,.inl J⟩) (ht J) (ht J) (EB q_u) q_mk) J fun i=>aF J<|zo J (sj gR (ht J))<|bv h fun y q_y h=>zo J (jY gR cO J (.head _) (ht J) (ht J) q_y)<|uy q_y<|bm J<|aQ ?_;exact cM (K1 y (i.h 0).1 (i.h 0).2 h) (bt J)
   ·refine bw<|Fi false cK 43 ?_;exact cM (K1 Ft none 0 h) (bt J)
 ·skip
  refine au<|aF J<|zo J (fa (ht J) hI)<|aq<|cU h J (fun h=>?_) (fun h=>?_)
  ·refine aw ?_;exact(nn h).elim
  ·refine bw<|bk ?_;exact cM (K h) (bt J)
theorem TW(slices:(List (List (List ac)))){R:(List (List ac))}(h:eQ slices=some R):fT aO 98 [bR (d7) slices] false cK 43 R:=by
 refine fT.of Tryz.func98 J J J fun w0 S0=>au<|bN false cK 43<|zo J (aJ rY)<|aq<|au<|zo J (cq)<|aq<|ah<|au<|aF J<|zo J (iw p8 J)<|zo J (bJ hI)<|aq<|ay<|ba (k:=9) J fun hN=>bG<|pU ?_;refine aT (nO (Z:=fun ls i size=>(slices.drop i=ls)∧fJ slices ls size=some R) (Of:=fun _ i size=>[]) (Gf:=fun _ i size=>[(0,bR (d7) slices),(3,bH size),(9,bR (d7) slices),(10,kg slices),(11,bH (i:Int))]) (fun i size h=>?_) (fun e tl ih i size h=>?_) slices 0 (0:Int) ⟨J,h⟩) (bt J)
 ·obtain⟨hx,h⟩:=h
  refine aC<|au<|zo J (fG J J)<|aq<|ah<|bA (ht J) (dC hx)<|bu ?_;refine ai (ai (aN ?_));refine av<|au<|aF rfl<|bv h fun r q_r h=>iv aa1 (RT _ q_r) ⟨hV,(ht J),aR⟩ J fun l c=>bm J<|aq<|ah<|au<|aF J<|zo J (iw p8 J)<|zo J (bJ hI)<|aq<|ay<|ba (k:=25) J fun hN1=>bG ?_;refine aT (jL (Z:=fun ls1 i1 newslice l1 c1=>(slices.drop i1=ls1)∧fI ls1 newslice=some R) (Of:=fun _ i1 newslice l1 c1=>[fq cK 43 l1 c1 newslice]) (Gf:=fun _ i1 newslice l1 c1=>[(6,qM l1 c1 newslice),(25,bR (d7) slices),(26,kg slices),(27,bH (i1:Int))]) (fun i1 newslice l1 c1 h=>?_) (fun e1 tl1 ih1 i1 newslice l1 c1 h=>?_) slices 0 r l c ⟨J,h⟩) (bt J)
  ·obtain⟨hx1,h⟩:=h
   refine aC<|au<|zo J (fG J J)<|aq<|ah<|bA (ht J) (dC hx1)<|bu ?_;refine ai (ai (aN ?_));refine av<|au<|aF rfl<|bm rfl<|aq<|ak ?_;cases so h;exact fQ J J
  ·obtain⟨hx1,h⟩:=h
   refine aC<|au<|zo J (fG J J)<|aq<|ah<|bz (ht J) (du hx1)<|dR<|ah<|ay<|au<|zo J (lq p8 hJ J J J (cW hx1))<|zo J (bB hJ J J)<|bm J<|aq<|aw<|aF J<|aF J<|bv h fun newslice1 q_newslice1 h=>cT cO J J J J gR J J (ht J) (ht J) q_newslice1 fun l2 c2=>?_;refine bm J<|aQ<|ap<|av<|aw<|zo rfl (mI (cQ hx1 hN1) rfl)<|aF rfl<|aQ ?_;exact bg (aT (ih1 (i1+1) newslice1 l2 c2 ⟨cP hx1,h⟩) (bt J))
 ·obtain⟨hx,h⟩:=h
  refine aC<|au<|zo J (fG J J)<|aq<|ah<|bz (ht J) (du hx)<|dR<|ah<|ay<|au<|zo J (lq p8 hJ J J J (cW hx))<|zo J (bB hJ J J)<|bm J<|aq<|au<|aF J<|aF J<|zo J (iw gR J) ?_;refine zo J (nc (ht J) (ht J))<|bm J<|aq<|au<|aF J<|zo J (fa (ht J) hI)<|aq<|cU h J (fun h=>?_) (fun h=>?_)
  ·refine aw ?_;exact(nn h).elim
  ·refine bw<|ap<|av<|aw<|zo rfl (mI (cQ hx hN) rfl)<|aF rfl<|aQ ?_;exact bg (aT (ih (i+1) (IntKind.i64.wrap (size+(e.length:Int))) ⟨cP hx,h⟩) (bt J))
theorem XD(slices:(List (List (List ac)))){R:(List (List ac))}(h:eQ slices=some R):aU aO 98 [bR (d7) slices] (bR (cK) R):=(TW _ h).spec

theorem Zj(b:Nat)(ix:OI)(r:cX)(n:am){R:(List (List ac))×Int}(h:j6 r n=some R):c9 aO 57 [tV (aP b 0),tD aL n] (jn b r ix) (fun _:OI=>tT [bR (cK) R.1,bH R.2]) (fun _=>(jn b r ix)):=by
 refine c9.of Tryz.func57 J J J fun w0 S0=>?_;refine(show CG _ _ _ [bx (rH eD [(1,aS (ix.h 0).1 (ix.h 0).2 r.rows.length),(2,aS (ix.h 1).1 (ix.h 1).2 r.width.length)]) 96 b r,d5 d7 32 (ix.h 0).1 (ix.h 0).2 r.rows,d5 bY 3 (ix.h 1).1 (ix.h 1).2 r.width] _ from ?_);refine au<|zo J (jw J)<|zo J (aJ (show aI _ _ _ uj from jA))<|zo J (cq)<|aq<|ah<|bv h fun e q_e h=>bv h fun e1 q_e1 h=>bv h fun r1 q_r1 h=>?_
 refine cJ (ts:=[_,_,_,_,_,_,_,_,_,_,_,_,_,_,_,_,_,_,_,_]) mixed J J
  ⟨ep 0 J J J (cD J),
  ⟨bT 6 0 J J J (dG (ht J)),
  ⟨bT 7 1 J J J (kG 1 qq J J J),
  ⟨bT 8 2 J J J (di yw J (.head _) (.tail _ (.head _)) (ht J)),
  ⟨ep 3 J J J (cY jR dX J J),
  ⟨bT 10 4 J J J (bB cv J J),
  ⟨dv 9 3 11 5 J J J J (bp p8 hJ J (k7 (ht J)) (ht J) q_e),
  ⟨bT 12 6 J J J (bB hJ J J),
  ⟨ep 0 J J J (cD J),
  ⟨bT 14 8 J J J (dG (ht J)),
  ⟨bT 15 9 J J J (kG 1 qq J J J),
  ⟨bT 16 10 J J J (di yw J (.head _) (.tail _ (.head _)) (ht J)),
  ⟨ep 3 J J J (cY rp kp J J),
  ⟨bT 18 12 J J J (bB cv J J),
  ⟨dv 17 11 19 13 J J J J (bp p8 hJ J (k7 (ht J)) (ht J) q_e1),
  ⟨bT 20 14 J J J (bB hJ J J),
  ⟨dv 13 7 21 15 J J J J (aV (r:=d7) (ys:=[e,e1]) (xs:=[.tmp 13,.tmp 21]) p8 hJ J J J J J ⟨(ht J),(ht J),aR⟩),
  ⟨bT 22 16 J J J (aA abT (XD _ q_r1) ⟨(ht J),aR⟩),
  ⟨bT 23 17 J J J (tA J),
  ⟨OX J J (cq),
  aR⟩⟩⟩⟩⟩⟩⟩⟩⟩⟩⟩⟩⟩⟩⟩⟩⟩⟩⟩⟩ ?_
 refine av<|ak<|aK<|aK<|aK ?_;cases so h;exact eg (ts:=[bR (cK) r1,bH 0]) (rvs:=[.tmp 4,.tmp 5]) J J ⟨aX J,aX J,aR⟩ pm J J

theorem U6(order:(List dn))(a1:(List ac))(b:(List ac)){R:Int}(h:ma order a1 b=some R):aU aO 154 [bR (af) a1,bR (af) b,bK IT order] (bH R):=by
 refine aU.of Tryz.func154 J J J fun w0 S0=>au<|zo J (cq)<|aq<|ah<|au<|zo J (bB wt J J)<|zo J (iw uC J)<|zo J (bJ hI)<|aq<|ay<|ba (k:=9) J fun hN=>bG ?_;refine aT (eH (Z:=fun ls i=>(order.drop i=ls)∧jq a1 b ls=some R) (Of:=fun _ i=>[]) (Gf:=fun _ i=>[(0,bR (af) a1),(1,bR (af) b),(9,bR (d3) order),(10,kg order),(11,bH (i:Int))]) (fun i h=>?_) (fun e tl ih i h=>?_) order 0 ⟨J,h⟩) (bt J)
 ·obtain⟨hx,h⟩:=h
  refine aC<|au<|zo J (fG J J)<|aq<|ah<|bA (ht J) (dC hx)<|bu ?_;refine ai (ai (aN ?_));refine av<|au<|aF rfl<|aF rfl<|bv h fun r q_r h=>zo J (aA ZG (RE _ _ q_r) ⟨(ht J),(ht J),aR⟩)<|bm J<|aq<|ak ?_;cases so h;exact aG J J
 ·obtain⟨hx,h⟩:=h
  refine aC<|au<|zo J (fG J J)<|aq<|ah<|bz (ht J) (du hx)<|dR<|ah<|ay<|au<|zo J (lq uC zg J J J (cW hx))<|zo J (bB zg J J)<|bc (r:=d3) (x:=(⟨(0:Int),false⟩:dn)) zg (fun _=>Qi _) J fun b1=>ax zg J an J (ht J) (ht J)<|aZ 7 J<|aq<|ah<|bv h fun e1 q_e1 h=>bv h fun e2 q_e2 h=>?_
  obtain⟨r1,q_r1,h⟩:=bs h
  refine cJ (ts:=[_,_,_,_,_,_,_,_,_,_,_,_]) mixed J J
   ⟨ep 0 J J J (cD J),
   ⟨ep 7 J J J (cY uv ow J J),
   ⟨bT 16 1 J J J (bB cv J J),
   ⟨dv 15 0 17 2 J J J J (lq gc aH J J J q_e1),
   ⟨bT 18 3 J J J (bB aH J J),
   ⟨ep 1 J J J (cD J),
   ⟨ep 7 J J J (cY uv ow J J),
   ⟨bT 21 6 J J J (bB cv J J),
   ⟨dv 20 5 22 7 J J J J (lq gc aH J J J q_e2),
   ⟨bT 23 8 J J J (bB aH J J),
   ⟨dv 19 4 24 9 J J J J (aA Sl (Ij _ _ q_r1) ⟨(ht J),(ht J),aR⟩),
   ⟨bT 25 10 J J J (tA J),
   aR⟩⟩⟩⟩⟩⟩⟩⟩⟩⟩⟩⟩ ?_
  refine av ?_;refine ke (Z:=fun n=>nJ (jq a1 b tl) n=some R) (Of:=fun n=>[]) (Gf:=fun n=>[(0,bR (af) a1),(1,bR (af) b),(8,bH n),(9,bR (d3) order),(10,kg order),(11,bH (i:Int))]) (fun n h=>?_) (fun K=>?_)
  ·skip
   refine au<|aF J<|zo J (tE J)<|aq<|cU h J (fun h=>?_) (fun h=>?_)
   ·refine au<|aF J<|bm J<|aq<|ak ?_;refine aD (ae (ae (aD (ae ?_))));cases so h;exact aG J J
   ·refine bw<|ap<|av<|aw<|zo rfl (mI (cQ hx hN) rfl)<|aF rfl<|aQ ?_;exact bg (aT (ih (i+1) ⟨cP hx,h⟩) (bt J))
  ·skip
   refine au<|zo J (cY Ru Kh J J)<|zo J (bB IF J J)<|aq<|cU h J (fun h=>?_) (fun h=>?_)
   ·refine aw<|aF J<|zo J (HP (ht J))<|bm J<|aQ ?_;exact cM (K (IntKind.i64.wrap (0-r1)) h) (bt J)
   ·refine bw ?_;exact cM (K r1 h) (bt J)

theorem Rx(order:(List dn)){R:((List ac)→(List ac)→Option Int)}(h:vd order=some R):aU aO 89 [bR (d3) order] ((dK aO Fs yu (fun(x:(List ac)×(List ac))=>R x.1 x.2))):=by
 refine aU.of Tryz.func89 J J J fun w0 S0=>au<|zo J (jw J)<|zo J (aJ hV)<|aq<|au<|zo J ((show bO _ _ _ _ ((dK aO Fs yu (fun(x:(List ac)×(List ac))=>(ma order) x.1 x.2)))from fW (cts:=[bK IT order]) (caps:=[.tmp 1]) aa7 ⟨(ht J),aR⟩ (fun x y h=>U6 _ _ _ h)))<|bm J<|aq<|ak ?_;cases so h;exact aG J J

theorem NZ(rows:(List (List ac)))(order:(List dn))(limit:Int){R:(List (List ac))}(h:m8 rows order limit=some R):fT aO 86 [bR (cK) rows,bR (d3) order,bH limit] false cK 43 R:=by
 refine fT.of Tryz.func86 J J J fun w0 S0=>au<|bN false cK 43<|zo J (aJ rY)<|aq<|au<|bN false cK 43<|zo J (aJ rY)<|aq<|ah<|au<|aF J<|zo J (iw gR J)<|zo J (bJ hI)<|aq<|ay<|ba (k:=10) J fun hN=>bG ?_;refine iF<|pU ?_;refine aT (jL (Z:=fun ls i out l c=>(rows.drop i=ls)∧j5 order limit ls out=some R) (Of:=fun _ i out l c=>[fq cK 43 l c out]) (Gf:=fun _ i out l c=>[(1,bR (d3) order),(2,bH limit),(7,qM l c out),(10,bR (cK) rows),(11,kg rows),(12,bH (i:Int))]) (fun i out l c h=>?_) (fun e tl ih i out l c h=>?_) rows 0 Ft none 0 ⟨J,h⟩) (bt J)
 ·obtain⟨hx,h⟩:=h
  refine aC<|au<|zo J (fG J J)<|aq<|ah<|bA (ht J) (dC hx)<|bu ?_;refine ai (ai (aN ?_));refine av<|au<|aF rfl<|aF rfl<|bv h fun r q_r h=>zo J (aA Zy (Rx _ q_r) ⟨(ht J),aR⟩)<|bv h fun tt q_srt h=>?_;refine E3 (n:=out.length) v6 ?_ Sk ?_ q_srt ?_ ?_ ?_ ?_ ?_
  ·rfl
  ·rfl
  ·exact(ht J)
  ·rfl
  ·exact(ht J)
  ·rfl
  intro hl
  refine oz hl 7 J<|oz hl 22 J<|aq ?_;refine yk (Z:=fun out1 l1 c1=>nW out1=some R) (Of:=fun out1 l1 c1=>[fq cK 43 l1 c1 out1]) (Gf:=fun out1 l1 c1=>[(7,qM l1 c1 out1)]) (fun out1 l1 c1 h=>?_) (fun K=>?_)
  ·skip
   refine au<|aF J<|bm J<|aq<|ak ?_;cases so h;exact fQ J J
  ·skip
   refine au<|aF J<|zo J (hT (ht J) hI)<|aF J<|cR J J (fun hg=>cD J)<|cR J J (fun hg=>cD J)<|cR J J (fun hg=>io gR (.head _) (bD J hg))<|cR J J (fun hg=>fa (bD J hg) (bD J hg))<|zo J (rE J J)<|aq<|cU h J (fun h=>?_) (fun h=>?_)
   ·refine aw<|aF J<|aF J<|bv h fun y q_y h=>zo J (jY gR cO J (.head _) (ht J) (ht J) q_y)<|uy q_y<|bm J<|aQ ?_;exact cM (K y l c h) (bt J)
   ·refine bw ?_;exact cM (K tt l c h) (bt J)
 ·obtain⟨hx,h⟩:=h
  refine aC<|au<|zo J (fG J J)<|aq<|ah<|bz (ht J) (du hx)<|dR<|ah<|ay<|au<|zo J (lq gR cO J J J (cW hx))<|zo J (bB cO J J)<|bm J<|aq<|aw<|aF J<|aF J<|bv h fun r1 q_r1 h=>iv Sn (EM _ q_r1) ⟨(ht J),aR⟩ J fun l2 c2=>?_;refine j8<|jt 18 J<|zo J (aV (r:=cK) (ys:=[r1]) (xs:=[.tmp 18]) gR cO J J J J J ⟨(k7 (ht J)),aR⟩)<|bI<|bv h fun out2 q_out2 h=>cT cO J J J J gR J J (ht J) (ht J) q_out2 fun l3 c3=>bm J<|aQ<|ap<|av<|aw<|zo rfl (mI (cQ hx hN) rfl)<|aF rfl<|aQ<|bE<|bk ?_;exact bg (aT (ih (i+1) out2 l3 c3 ⟨cP hx,h⟩) (bt J))
theorem XF(rows:(List (List ac)))(order:(List dn))(limit:Int){R:(List (List ac))}(h:m8 rows order limit=some R):aU aO 86 [bR (cK) rows,bR (d3) order,bH limit] (bR (cK) R):=(NZ _ _ _ h).spec

end Go.Proofs.YtfhhakidodmdfaaGreatDoor

