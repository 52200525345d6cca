/- da of this claim: P8. -/
import Derived.Test.YtfhhakidodmdfaaGreatDoorJdT
import Derived.Test.YtfhhakidodmdfaaGreatDoorJdP7
set_option linter.all false
namespace Go.Proofs.YtfhhakidodmdfaaGreatDoor
open Go
set_option maxRecDepth 100000

theorem Zn(b:Nat)(ix:OI)(r:cX)(n:am){R:(List (List ac))×Int}(h:jy r n=some R):c9 aO 53 [tV (aP b 0),tD aL n] (jn b r ix) (fun _:OI=>tT [bR (cK) R.1,bH R.2]) (fun _=>(jn b r ix)):=by
 refine c9.of Tryz.func53 J J J fun w0 S0=>?_;refine(show CG _ _ _ [bx (rH eD [(1,aS (ix.h 0).1 (ix.h 0).2 r.rows.length),(2,aS (ix.h 1).1 (ix.h 1).2 r.width.length)]) 96 b r,d5 d7 32 (ix.h 0).1 (ix.h 0).2 r.rows,d5 bY 3 (ix.h 1).1 (ix.h 1).2 r.width] _ from ?_);refine au<|zo J (jw J)<|zo J (aJ (show aI _ _ _ uj from jA))<|zo J (cq)<|aq<|au<|bN false cK 43<|zo J (aJ rY)<|aq<|ah<|ah<|bv h fun e q_e h=>?_
 refine cJ (ts:=[_,_,_,_,_,_,_,_,_,_]) mixed J J
  ⟨ep 0 J J J (cD J),
  ⟨bT 11 0 J J J (dG (ht J)),
  ⟨bT 12 1 J J J (kG 1 qq J J J),
  ⟨bT 13 2 J J J (di yw J (.tail _ (.head _)) (.tail _ (.tail _ (.head _))) (ht J)),
  ⟨ep 3 J J J (cY jR dX J J),
  ⟨bT 15 4 J J J (bB cv J J),
  ⟨dv 14 3 16 5 J J J J (bp p8 hJ J (k7 (ht J)) (ht J) q_e),
  ⟨bT 17 6 J J J (bB hJ J J),
  ⟨bT 18 7 J J J (iw gR J),
  ⟨OX J J (bJ hI),
  aR⟩⟩⟩⟩⟩⟩⟩⟩⟩⟩ ?_
 refine av<|ay<|ba (k:=18) J fun hN=>bG ?_;refine aT (jL (Z:=fun ls i out l c=>(e.drop i=ls)∧fZ n ls out=some R) (Of:=fun _ i out l c=>[fq cK 43 l c out,bx (rH eD [(1,aS (ix.h 0).1 (ix.h 0).2 r.rows.length),(2,aS (ix.h 1).1 (ix.h 1).2 r.width.length)]) 96 b r,d5 d7 32 (ix.h 0).1 (ix.h 0).2 r.rows,d5 bY 3 (ix.h 1).1 (ix.h 1).2 r.width]) (Gf:=fun _ i out l c=>[(3,bK aL n),(6,qM l c out),(18,bR (cK) e),(19,kg e),(20,bH (i:Int))]) (fun i out l c h=>?_) (fun e1 tl ih i out l c h=>?_) e 0 Ft none 0 ⟨J,h⟩) (bt J)
 ·obtain⟨hx,h⟩:=h
  refine aC<|au<|zo J (fG J J)<|aq<|ah<|bA (ht J) (dC hx)<|bu ?_;refine ai (ai (aN ?_));refine av<|au<|aF rfl<|bm rfl<|zo rfl (cq)<|aq<|ak<|jb<|cw 6 rfl<|cw 40 rfl<|cw 4 rfl<|jd 4 rfl<|bk<|aK<|aK<|aK ?_;cases so h;exact eg (ts:=[bR (cK) out,bH 0]) (rvs:=[.tmp 4,.tmp 5]) J J ⟨aX J,aX J,aR⟩ pm J J
 ·obtain⟨hx,h⟩:=h
  refine aC<|au<|zo J (fG J J)<|aq<|ah<|bz (ht J) (du hx)<|dR<|ah<|ay<|au<|zo J (lq gR cO J J J (cW hx))<|zo J (bB cO J J)<|bm J<|aq<|au<|zo J (cY vN oU J J)<|zo J (bB mJ J J)<|aF J ?_;refine bv h fun r1 q_r1 h=>zo J (aA Wv (Ok _ _ q_r1) ⟨(ht J),(ht J),aR⟩)<|aF J<|zo J (hZ J J)<|zo J (hZ J J)<|bm J<|bm J<|aq<|ah<|au<|aF J<|zo J (tE J)<|aq<|cU h J (fun h=>?_) (fun h=>?_)
  ·refine au<|aF J<|zo J (aJ (show aI _ _ _ uj from jA))<|bm J<|aq<|ak ?_;refine ae (aD (ae (ae (aD (ae ?_)))));refine bk<|aK<|aK<|aK ?_;cases so h;exact eg (ts:=[bR (cK) ([]),bH r1.2]) (rvs:=[.tmp 4,.tmp 5]) J J ⟨aX J,aX J,aR⟩ pm J J
  ·refine dR<|au<|aF J<|aq<|cU h J (fun h=>?_) (fun h=>?_)
   ·refine aw<|aF J<|aF J<|zo J (aV (r:=cK) (ys:=[e1]) (xs:=[.tmp 36]) gR cO J J J J J ⟨(ht J),aR⟩)<|bv h fun out1 q_out1 h=>cT cO J J J J gR J J (ht J) (ht J) q_out1 fun l1 c1=>bm J<|aQ<|ap<|av<|aw<|zo rfl (mI (cQ hx hN) rfl)<|aF rfl<|aQ ?_;exact bg (aT (ih (i+1) out1 l1 c1 ⟨cP hx,h⟩) (bt J))
   ·refine bw<|ap<|av<|aw<|zo rfl (mI (cQ hx hN) rfl)<|aF rfl<|aQ ?_;exact bg (aT (ih (i+1) out l c ⟨cP hx,h⟩) (bt J))

theorem Ve(a1:hY)(rows:(List (List ac))){R:(List ac)×Int}(h:xn a1 rows=some R):aU aO 131 [tD gm a1,bR (cK) rows] (tT [bR (af) R.1,bH R.2]):=by
 refine aU.of Tryz.func131 J J J fun w0 S0=>au<|zo J (jw J)<|zo J (aJ (show aI _ _ _ (bR (af) ([]))from jA))<|zo J (cq)<|aq<|au<|bN false af 46<|zo J (aJ rY)<|aq<|au<|zo J (cq)<|aq<|ah<|au<|aF J<|zo J (iw gR J) ?_;refine zo J (bJ hI)<|aq<|ay<|ba (k:=12) J fun hN=>bG ?_;refine aT (tp (Z:=fun ls i out l c fault=>(rows.drop i=ls)∧jr a1 ls out fault=some R) (Of:=fun _ i out l c fault=>[fq af 46 l c out]) (Gf:=fun _ i out l c fault=>[(2,bK gm a1),(6,qM l c out),(7,bH fault),(12,bR (cK) rows),(13,kg rows),(14,bH (i:Int))]) (fun i out l c fault h=>?_) (fun e tl ih i out l c fault h=>?_) rows 0 Hf none 0 (0:Int) ⟨J,h⟩) (bt J)
 ·obtain⟨hx,h⟩:=h
  refine aC<|au<|zo J (fG J J)<|aq<|ah<|bA (ht J) (dC hx)<|bu ?_;refine ai (ai (aN ?_));refine av<|au<|aF rfl<|aF rfl<|bm rfl<|bm rfl<|aq<|ak<|jb<|cw 6 rfl<|cw 41 rfl<|cw 4 rfl<|jd 4 rfl<|bk ?_;cases so h;exact cC J J J
 ·obtain⟨hx,h⟩:=h
  refine aC<|au<|zo J (fG J J)<|aq<|ah<|bz (ht J) (du hx)<|dR<|ah<|ay<|au<|zo J (lq gR cO J J J (cW hx))<|zo J (bB cO J J)<|bm J<|aq<|au<|zo J (cY EL xj J J)<|zo J (bB mJ J J)<|aF J ?_;refine bv h fun r q_r h=>zo J (aA Sm (Ik _ _ q_r) ⟨(ht J),(ht J),aR⟩)<|aF J<|zo J (hZ J J)<|zo J (hZ J J)<|bc (r:=af) (x:=hX) aH (fun _=>bf _) J fun b=>ax aH J an J (ht J) (ht J)<|aZ 10 J<|bm J<|aq<|ay<|au<|aF J<|zo J (lU J)<|bm J<|aq<|cU h J (fun h=>?_) (fun h=>?_)
  ·refine aw<|aF J<|bm J<|aQ<|ap<|ap<|av<|aw<|zo rfl (mI (cQ hx hN) rfl)<|aF rfl<|aQ ?_;exact bg (aT (ih (i+1) out l c r.2 ⟨cP hx,h⟩) (bt J))
  ·refine au<|aF J<|zo J (tE J)<|bm J<|aq<|cU h J (fun h=>?_) (fun h=>?_)
   ·refine au<|zo J (aJ (show aI _ _ _ (bR (af) ([]))from jA))<|zo J (cq)<|aq<|ak ?_;refine aD (aD (ae (ae (aD (ae ?_)))));refine bk ?_;cases so h;exact cC J J J
   ·refine au<|zo J (cY fR cg J J)<|zo J (bB cv J J)<|zo J (tE J)<|bm J<|aq<|cU h J (fun h=>?_) (fun h=>?_)
    ·refine aw<|aF J<|zo J (bB aH J J)<|zo J (aV (r:=af) (ys:=[r.1]) (xs:=[.tmp 37]) j3 aH J J J J J ⟨(ht J),aR⟩)<|bv h fun out1 q_out1 h=>cT aH J J J J j3 J J (ht J) (ht J) q_out1 fun l1 c1=>bm J<|aQ<|ap<|ap<|av<|aw<|zo rfl (mI (cQ hx hN) rfl)<|aF rfl<|aQ ?_;exact bg (aT (ih (i+1) out1 l1 c1 fault ⟨cP hx,h⟩) (bt J))
    ·refine bw<|ap<|ap<|av<|aw<|zo rfl (mI (cQ hx hN) rfl)<|aF rfl<|aQ ?_;exact bg (aT (ih (i+1) out l c fault ⟨cP hx,h⟩) (bt J))

theorem Vd(v:ac){R:Bool}(h:mB v=some R):aU aO 132 [tD af v] (gY R):=by
 refine aU.of Tryz.func132 J J J fun w0 S0=>au<|zo J (jw J)<|zo J (jE)<|aq<|au<|zo J (cY fR cg J J)<|zo J (bB cv J J)<|zo J (tE J)<|bm J<|aq<|ak ?_;cases so h;exact aG J J

theorem UM(s:(List ac))(f:(ac→Option Bool)){R:Int}(h:gv s f=some R):aU aO 215 [bR (af) s,(dK aO Ai kN (fun(x:ac)=>f x))] (bH R):=by
 refine aU.of Tryz.func215 J J J fun w0 S0=>au<|zo J (cq)<|aq<|ah<|au<|aF J<|zo J (iw j3 J)<|zo J (bJ hI)<|aq<|ay<|ba (k:=6) J fun hN=>bG ?_;refine aT (eH (Z:=fun ls i=>(s.drop i=ls)∧c0 f ls i=some R) (Of:=fun _ i=>[]) (Gf:=fun _ i=>[(0,bR (af) s),(1,(dK aO Ai kN (fun(x:ac)=>f x))),(7,kg s),(8,bH (i:Int))]) (fun i h=>?_) (fun e tl ih i h=>?_) s 0 ⟨J,h⟩) (bt J)
 ·obtain⟨hx,h⟩:=h
  refine aC<|au<|zo J (fG J J)<|aq<|ah<|bA (ht J) (dC hx)<|bu ?_;refine ai (ai (aN ?_));refine av<|au<|zo rfl (cq)<|aq<|ak ?_;cases so h;exact aG J J
 ·obtain⟨hx,h⟩:=h
  refine aC<|au<|zo J (fG J J)<|aq<|ah<|bz (ht J) (du hx)<|dR<|ah<|ay<|au<|aF J<|bm J<|aq<|au<|aF J<|aF J<|aF J<|zo J (lq j3 aH J J J (cW hx)) ?_;refine zo J (bB aH J J)<|bv h fun r q_r h=>zo J (fN (args:=Ai) (res:=CQ) (f:=(fun(x:ac)=>f x)) (x:=((e):ac)) (ht J) q_r ⟨(ht J),aR⟩)<|aq<|cU h J (fun h=>?_) (fun h=>?_)
  ·refine au<|aF J<|bm J<|aq<|ak ?_;refine aD (ae (ae (aD (ae ?_))));cases so h;exact aG J J
  ·refine bw<|ap<|av<|aw<|zo rfl (mI (cQ hx hN) rfl)<|aF rfl<|aQ ?_;exact bg (aT (ih (i+1) ⟨cP hx,h⟩) (bt J))

theorem Vc(s:(List ac))(f:(ac→Option Bool)){R:Bool}(h:d6 s f=some R):aU aO 133 [bR (af) s,(dK aO Ai kN (fun(x:ac)=>f x))] (gY R):=by
 refine aU.of Tryz.func133 J J J fun w0 S0=>au<|zo J (jE)<|aq<|au<|aF J<|aF J<|bv h fun r q_r h=>zo J (aA aax (UM _ _ q_r) ⟨(ht J),(ht J),aR⟩)<|zo J (hT (ht J) hI)<|bm J<|aq<|ak ?_;cases so h;exact aG J J

theorem Ic(v:ac){R:ac}(h:qx v=some R):aU aO 289 [tD af v] (tD af R):=by
 refine aU.of Tryz.func289 J J J fun w0 S0=>au<|zo J (jw J)<|bc (r:=af) (x:=hX) aH (fun _=>bf _) J fun b=>aq<|au<|zo J (cY iZ dm J J)<|zo J (bB Bl J J)<|zo J (BH (ht J) hI (by decide))<|zo J (cY iZ dm J J)<|zo J (bB Bl J J)<|zo J (rR zZ Aa (ht J))<|zo J (ci (y:=(⟨(4:Int),((v.N).fdiv (2^(min (Int.toNat (63:Int)) IntKind.i64.bits))),(IntKind.u64.wrap v.N),[]⟩:ac)) aH pL bf (⟨_,_,_,_,_,J,nq,J,hI,⟨_,_,_,_,_,J,oL,J,(ht J),⟨_,_,_,_,_,J,zk,J,(ht J),J⟩⟩⟩))<|ax aH J an J (ht J) (ht J)<|aZ 2 J<|aq<|ak ?_;cases so h;exact iN J aH J J J

theorem Uo(s:ac)(t:ac){R:ac×Int}(h:vX s t=some R):aU aO 290 [tD af s,tD af t] (tT [tD af R.1,bH R.2]):=by
 refine aU.of Tryz.func290 J J J fun w0 S0=>au<|zo J (jw J)<|zo J (jw J)<|bc (r:=af) (x:=hX) aH (fun _=>bf _) J fun b=>zo J (cq)<|aq<|au<|zo J (cY qr iY J J)<|zo J (bB Al J J)<|zo J (cY qr iY J J)<|zo J (bB Al J J)<|bv h fun r q_r h=>zo J (JH Tryz.func347 (by kernel_rfl) (by kernel_rfl) (by kernel_rfl) (by kernel_rfl) (ht J) (ht J) hI q_r)<|aF J<|zo J (hZ J J)<|zo J (hZ J J)<|bm J<|bm J<|aq ?_;refine au<|zo J (cY iZ dm J J)<|zo J (bB Bl J J)<|zo J (rR zZ Aa (ht J))<|zo J (cY iZ dm J J)<|zo J (bB Bl J J)<|zo J (rR zZ Aa (ht J))<|aF J<|bv h fun r1 q_r1 h=>zo J (JH Tryz.func347 (by kernel_rfl) (by kernel_rfl) (by kernel_rfl) (by kernel_rfl) (ht J) (ht J) (ht J) q_r1)<|aF J<|zo J (hZ J J)<|zo J (hZ J J)<|bm J<|bm J<|aq<|au<|aF J<|zo J (rR Aa zZ (ht J))<|bm J<|aQ ?_;refine av<|ah<|au<|zo rfl (cY iZ dm rfl rfl)<|zo rfl (bB Bl rfl rfl)<|aF rfl<|zo rfl (BG (ht rfl) (ht rfl))<|zo rfl (cY iZ dm rfl rfl)<|zo rfl (bB Bl rfl rfl)<|aF rfl<|zo rfl (BG (ht rfl) (ht rfl))<|zo rfl (BI (ht rfl) (ht rfl))<|zo rfl (fa (ht rfl) hI)<|aq<|cU h rfl (fun h=>?_) (fun h=>?_)
 ·refine au<|zo J (ci (y:=hX) aH pL bf (J))<|ax aH J an J (ht J) (ht J)<|zo J (cq)<|aq<|ak<|ae<|bn 4 J ?_;cases so h;exact bS J J ⟨br aH J J J,aX J,aR⟩
 ·refine dR<|au<|aF J<|aF J<|zo J (ci (y:=(⟨(4:Int),(IntKind.i64.wrap r1.1),r.1,[]⟩:ac)) aH pL bf (⟨_,_,_,_,_,J,nq,J,hI,⟨_,_,_,_,_,J,oL,J,(ht J),⟨_,_,_,_,_,J,zk,J,(ht J),J⟩⟩⟩))<|ax aH J an J (ht J) (ht J)<|zo J (cq)<|aq<|ak<|bn 4 J ?_;cases so h;exact bS J J ⟨br aH J J J,aX J,aR⟩

theorem UL(s:ac)(v:ac){R:ac×Int}(h:sr s v=some R):aU aO 217 [tD af s,tD af v] (tT [tD af R.1,bH R.2]):=by
 refine aU.of Tryz.func217 J J J fun w0 S0=>au<|zo J (jw J)<|zo J (jw J)<|bc (r:=af) (x:=hX) aH (fun _=>bf _) J fun b=>zo J (cq)<|aq<|ah<|ah<|bv h fun r q_r h=>bv h fun r1 q_r1 h=>?_
 refine cJ (ts:=[_,_,_,_,_,_,_,_]) mixed J J
  ⟨ep 2 J J J (bB aH J J),
  ⟨bT 8 0 J J J (aV (r:=af) (ys:=[s]) (xs:=[.tmp 8]) j3 aH J J J J J ⟨(ht J),aR⟩),
  ⟨bT 9 1 J J J (aA Oy (Df _ _ q_r) ⟨hI,(ht J),aR⟩),
  ⟨ep 3 J J J (bB aH J J),
  ⟨bT 11 3 J J J (aV (r:=af) (ys:=[v]) (xs:=[.tmp 11]) j3 aH J J J J J ⟨(ht J),aR⟩),
  ⟨bT 12 4 J J J (aA Oy (Df _ _ q_r1) ⟨hI,(ht J),aR⟩),
  ⟨bT 10 2 J J J (tA J),
  ⟨bT 13 5 J J J (tA J),
  aR⟩⟩⟩⟩⟩⟩⟩⟩ ?_
 refine av<|ay<|au<|aF rfl<|zo rfl (lU rfl)<|aF rfl<|gI rfl rfl (fun hg=>cD J)<|gI J J (fun hg=>dd (bD J hg) hI)<|zo J (yr J J)<|bm J<|aq<|cU h J (fun h=>?_) (fun h=>?_)
 ·refine au<|zo J (ci (y:=hX) aH pL bf (J))<|ax aH J an J (ht J) (ht J)<|zo J (cq)<|aq<|ak ?_;refine aD (ae ?_);refine bn 4 J ?_;cases so h;exact bS J J ⟨br aH J J J,aX J,aR⟩
 ·refine au<|aF J<|zo J (tE J)<|aF J<|gI J J (fun hg=>cD J)<|gI J J (fun hg=>eZ (bD J hg) hI)<|zo J (yr J J)<|bm J<|aq<|cU h J (fun h=>?_) (fun h=>?_)
  ·refine au<|zo J (ci (y:=hX) aH pL bf (J))<|ax aH J an J (ht J) (ht J)<|zo J (cq)<|aq<|ak ?_;refine aD (ae ?_);refine bn 4 J ?_;cases so h;exact bS J J ⟨br aH J J J,aX J,aR⟩
  ·refine au<|zo J (cY fR cg J J)<|zo J (bB cv J J)<|zo J (lU J)<|bm J<|aq<|cU h J (fun h=>?_) (fun h=>?_)
   ·refine au<|zo J (bB aH J J)<|ax aH J an J (ht J) (ht J)<|zo J (cq)<|aq<|ak ?_;refine aD (ae ?_);refine bn 4 J ?_;cases so h;exact bS J J ⟨br aH J J J,aX J,aR⟩
   ·refine au<|zo J (cY fR cg J J)<|zo J (bB cv J J)<|zo J (lU J)<|bm J<|aq<|cU h J (fun h=>?_) (fun h=>?_)
    ·refine au<|zo J (bB aH J J)<|bv h fun r2 q_r2 h=>zo J (aA Sa (Ic _ q_r2) ⟨(ht J),aR⟩)<|ax aH J an J (ht J) (ht J)<|zo J (cq)<|aq<|ak ?_;refine aD (ae ?_);refine bn 4 J ?_;cases so h;exact bS J J ⟨br aH J J J,aX J,aR⟩
    ·refine bw<|ap<|av<|ah<|bv h fun r3 q_r3 h=>bv h fun r4 q_r4 h=>?_
     refine tq 6 (ts:=[tD af s,tD af v,tD af r3,tT [tD af r4.1,bH r4.2],tD af r4.1,bH r4.2]) mixed J J J
      ⟨ep 2 J J J (bB aH J J),
      ⟨ep 3 J J J (bB aH J J),
      ⟨bT 42 1 J J J (aA Sa (Ic _ q_r3) ⟨(ht J),aR⟩),
      ⟨dv 41 0 43 2 J J J J (aA Z7 (Uo _ _ q_r4) ⟨(ht J),(ht J),aR⟩),
      ⟨bT 44 3 J J J (hZ J J),
      ⟨bT 44 3 J J J (hZ J J),
      aR⟩⟩⟩⟩⟩⟩ ?_
     refine ax aH J an J (ht J) (ht J)<|bm J<|aq<|ak<|bn 4 J ?_;cases so h;exact bS J J ⟨br aH J J J,aX J,aR⟩

theorem UK(s:ac){R:ac×Int}(h:ye s=some R):aU aO 218 [tD af s] (tT [tD af R.1,bH R.2]):=by
 refine aU.of Tryz.func218 J J J fun w0 S0=>au<|zo J (jw J)<|bc (r:=af) (x:=hX) aH (fun _=>bf _) J fun b=>zo J (cq)<|aq<|ah<|au<|zo J (bB aH J J)<|zo J (aV (r:=af) (ys:=[s]) (xs:=[.tmp 6]) j3 aH J J J J J ⟨(ht J),aR⟩)<|bv h fun r q_r h=>zo J (aA Oy (Df _ _ q_r) ⟨hI,(ht J),aR⟩)<|bm J<|aq<|ay<|au<|aF J<|zo J (tE J)<|bm J ?_;refine aq<|cU h J (fun h=>?_) (fun h=>?_)
 ·refine au<|zo J (ci (y:=hX) aH pL bf (J))<|aF J<|ax aH J an J (ht J) (ht J)<|bm J<|aq<|ak ?_;refine aD (ae ?_);refine bn 2 J ?_;cases so h;exact bS J J ⟨br aH J J J,aX J,aR⟩
 ·refine au<|zo J (cY fR cg J J)<|zo J (bB cv J J)<|zo J (lU J)<|bm J<|aq<|cU h J (fun h=>?_) (fun h=>?_)
  ·refine au<|zo J (bB aH J J)<|ax aH J an J (ht J) (ht J)<|zo J (cq)<|aq<|ak ?_;refine aD (ae ?_);refine bn 2 J ?_;cases so h;exact bS J J ⟨br aH J J J,aX J,aR⟩
  ·refine bw<|ap<|av<|ah<|au<|zo rfl (cY qr iY rfl rfl)<|zo rfl (bB Al rfl rfl)<|zo rfl (rR Aa zZ (ht rfl))<|bv h fun r1 q_r1 h=>zo J (aA KC (AS _ q_r1) ⟨(ht J),aR⟩)<|bc (r:=af) (x:=hX) aH (fun _=>bf _) J fun b1=>ax aH J an J (ht J) (ht J)<|aZ 5 J<|aq<|ah<|bv h fun r2 q_r2 h=>?_
   refine cJ (ts:=[_,_,_,_]) mixed J J
    ⟨ep 5 J J J (bB aH J J),
    ⟨bT 23 0 J J J (aA Sa (Ic _ q_r2) ⟨(ht J),aR⟩),
    ⟨ep 1 J J J (bB aH J J),
    ⟨dv 24 1 25 2 J J J J (AC MF (ht J) (ht J)),
    aR⟩⟩⟩⟩ ?_
   refine av<|cU h rfl (fun h=>?_) (fun h=>?_)
   ·refine au<|zo J (bB aH J J)<|ax aH J an J (ht J) (ht J)<|zo J (cq)<|aq<|ak<|ae<|bn 2 J ?_;cases so h;exact bS J J ⟨br aH J J J,aX J,aR⟩
   ·refine dR<|au<|zo J (ci (y:=hX) aH pL bf (J))<|ax aH J an J (ht J) (ht J)<|zo J (cq)<|aq<|ak<|bn 2 J ?_;cases so h;exact bS J J ⟨br aH J J J,aX J,aR⟩

theorem Vb(l:(List ac)){R:ac×Int}(h:yf l=some R):aU aO 134 [bR (af) l] (tT [tD af R.1,bH R.2]):=by
 refine aU.of Tryz.func134 J J J fun w0 S0=>au<|bc (r:=af) (x:=hX) aH (fun _=>bf _) J fun b=>zo J (cq)<|aq<|ah<|au<|aF J<|zo J (iw j3 J)<|zo J (jm (ht J) hI)<|aq<|cU h J (fun h=>?_) (fun h=>?_)
 ·refine au<|zo J (ci (y:=hX) aH pL bf (J))<|ax aH J an J (ht J) (ht J)<|zo J (cq)<|aq<|ak<|ae<|bn 2 J ?_;cases so h;exact bS J J ⟨br aH J J J,aX J,aR⟩
 ·refine dR<|au<|bv h fun r q_r h=>zo J (aA Sh (Ih q_r) trivial)<|bc (r:=af) (x:=hX) aH (fun _=>bf _) J fun b1=>ax aH J an J (ht J) (ht J)<|aq<|ah<|au<|aF J<|zo J (iw j3 J)<|zo J (bJ hI)<|aq<|ay<|ba (k:=14) J fun hN=>bG<|iF ?_;refine aT (vh (Z:=fun ls i x s=>(l.drop i=ls)∧mG ls x s=some R) (Of:=fun _ i x s=>[bx af 46 b x,bx af 46 b1 s]) (Gf:=fun _ i x s=>[(2,tV (aP b 0)),(4,tV (aP b1 0)),(14,bR (af) l),(15,kg l),(16,bH (i:Int))]) (fun i x s h=>?_) (fun e tl ih i x s h=>?_) l 0 hX r ⟨J,h⟩) (bt J)
  ·obtain⟨hx,h⟩:=h
   refine aC<|au<|zo J (fG J J)<|aq<|ah<|bA (ht J) (dC hx)<|bu ?_;refine ai (ai (aN ?_));refine av<|au<|zo rfl (cd aH rfl rfl bQ (.tail _ (.head _)) (ht rfl))<|bv h fun r1 q_r1 h=>zo J (aA aav (UK _ q_r1) ⟨(ht J),aR⟩)<|zo J (hZ J J)<|zo J (hZ J J)<|ax aH J an J (ht J) (ht J)<|bm J<|aq<|ak<|bn 2 J<|bk ?_;cases so h;exact bS J J ⟨br aH J J J,aX J,aR⟩
  ·obtain⟨hx,h⟩:=h
   refine aC<|au<|zo J (fG J J)<|aq<|ah<|bz (ht J) (du hx)<|dR<|ah<|ay<|au<|zo J (lq j3 aH J J J (cW hx))<|zo J (bB aH J J)<|bc (r:=af) (x:=hX) aH (fun _=>bf _) J fun b2=>ax aH J an J (ht J) (ht J)<|aZ 6 J<|aq<|au<|zo J (cd aH J J bQ (.tail _ (.head _)) (ht J)) ?_;refine zo J (bB aH J J)<|bv h fun r2 q_r2 h=>zo J (aA aaw (UL _ _ q_r2) ⟨(ht J),(ht J),aR⟩)<|aF J<|zo J (hZ J J)<|zo J (hZ J J)<|bc (r:=af) (x:=hX) aH (fun _=>bf _) J fun b3=>ax aH J an J (ht J) (ht J)<|aZ 7 J<|bm J<|aq<|ah<|au<|aF J<|zo J (tE J)<|aq<|cU h J (fun h=>?_) (fun h=>?_)
   ·refine au<|zo J (bB aH J J)<|aF J<|ax aH J an J (ht J) (ht J)<|bm J<|aq<|ak ?_;refine ae (aD (ae (ae (aD (ae ?_)))));refine bn 2 J<|bk ?_;cases so h;exact bS J J ⟨br aH J J J,aX J,aR⟩
   ·refine dR<|aw<|zo J (bB aH J J)<|bI<|ax aH J an J (ht J) (ht J)<|aQ<|ap<|av<|aw<|zo rfl (mI (cQ hx hN) rfl)<|aF rfl<|aQ<|bE ?_;exact bg (aT (ih (i+1) x r2.1 ⟨cP hx,h⟩) (bt J))

theorem Va(p:(List ac))(cmp:(ac→ac→Option Int)){R:ac}(h:eU p cmp=some R):aU aO 135 [bR (af) p,(dK aO pX yu (fun(x:ac×ac)=>cmp x.1 x.2))] (tD af R):=by
 refine aU.of Tryz.func135 J J J fun w0 S0=>au<|bc (r:=af) (x:=hX) aH (fun _=>bf _) J fun b=>aq ?_;refine vl (Z:=gi p cmp=some R) (Of:=[bx af 46 b hX]) (Gf:=[(0,bR (af) p),(1,(dK aO pX yu (fun(x:ac×ac)=>cmp x.1 x.2))),(4,tV (aP b 0))]) (fun h=>?_) (fun K=>?_)
 ·skip
  refine au<|aF J<|bv h fun e q_e h=>zo J (bp j3 aH J (ht J) hI q_e)<|zo J (bB aH J J)<|bc (r:=af) (x:=hX) aH (fun _=>bf _) J fun b1=>ax aH J an J (ht J) (ht J)<|aq<|ah<|au<|zo J (cq)<|aq<|ay<|ba (k:=0) J fun hN=>bG<|iF ?_;refine aT (nO (Z:=fun ls i m=>(p.drop i=ls)∧cF cmp ls m=some R) (Of:=fun _ i m=>[bx af 46 b hX,bx af 46 b1 m]) (Gf:=fun _ i m=>[(0,bR (af) p),(1,(dK aO pX yu (fun(x:ac×ac)=>cmp x.1 x.2))),(4,tV (aP b 0)),(5,tV (aP b1 0)),(6,bH (i:Int))]) (fun i m h=>?_) (fun e1 tl ih i m h=>?_) (p.drop (1)) 1 e ⟨J,h⟩) (bt J)
  ·obtain⟨hx,h⟩:=h
   refine aC<|ah<|au<|aF J<|aF J<|zo J (iw j3 J)<|zo J (fG J J)<|aq<|bA (ht J) (dC hx)<|bu ?_;refine ai (ai (aN ?_));refine av<|au<|zo rfl (cd aH rfl rfl bQ (.tail _ (.head _)) (ht rfl))<|ax aH rfl an rfl (ht rfl) (ht rfl)<|aZ 4 rfl<|aq<|ak<|bk ?_;cases so h;exact iN J aH J J J
  ·obtain⟨hx,h⟩:=h
   refine aC<|ah<|au<|aF J<|aF J<|zo J (iw j3 J)<|zo J (fG J J)<|aq<|bz (ht J) (du hx)<|dR<|ah<|ay<|ah<|bv h fun r q_r h=>?_
   refine cJ (ts:=[_,_,_,_,_,_,_,_]) mixed J J
    ⟨ep 1 J J J (cD J),
    ⟨ep 0 J J J (cD J),
    ⟨ep 6 J J J (cD J),
    ⟨dv 21 1 22 2 J J J J (lq j3 aH J J J (cW hx)),
    ⟨bT 23 3 J J J (bB aH J J),
    ⟨ep 5 J J J (cd aH J J bQ (.tail _ (.head _)) (ht J)),
    ⟨Ga 20 0 24 4 25 5 J J J J J (fN (args:=pX) (res:=Qj) (f:=(fun(x:ac×ac)=>cmp x.1 x.2)) (x:=((e1,m):ac×ac)) (ht J) q_r ⟨(ht J),(ht J),aR⟩),
    ⟨bT 26 6 J J J (fa (ht J) hI),
    aR⟩⟩⟩⟩⟩⟩⟩⟩ ?_
   refine av<|cU h rfl (fun h=>?_) (fun h=>?_)
   ·refine aw<|aF J<|aF J<|zo J (lq j3 aH J J J (cW hx))<|zo J (bB aH J J)<|bI<|ax aH J an J (ht J) (ht J)<|aQ<|ap<|av<|aw<|aF rfl<|zo rfl (mI (cQ hx hN) rfl)<|bm rfl<|aQ<|bE ?_;exact bg (aT (ih (i+1) e1 ⟨cP hx,h⟩) (bt J))
   ·refine bw<|ap<|av<|aw<|aF rfl<|zo rfl (mI (cQ hx hN) rfl)<|bm rfl<|aQ ?_;exact bg (aT (ih (i+1) m ⟨cP hx,h⟩) (bt J))
 ·skip
  refine au<|aF J<|zo J (iw j3 J)<|zo J (fa (ht J) hI)<|aq<|cU h J (fun h=>?_) (fun h=>?_)
  ·refine aw ?_;exact(nn h).elim
  ·refine bw ?_;exact cM (K h) (bt J)

theorem U4(v:ac){R:Bool}(h:qR v=some R):aU aO 158 [tD af v] (gY R):=by
 refine aU.of Tryz.func158 J J J fun w0 S0=>au<|zo J (jw J)<|zo J (jE)<|aq<|au<|zo J (bB aH J J)<|bv h fun r q_r h=>zo J (aA KE (AV _ q_r) ⟨(ht J),aR⟩)<|zo J (tE J)<|bm J<|aq<|ak ?_;cases so h;exact aG J J

theorem UI(s:(List ac))(f:(ac→Option Bool)){R:Int}(h:ki s f=some R):aU aO 242 [bR (af) s,(dK aO Ai kN (fun(x:ac)=>f x))] (bH R):=by
 refine aU.of Tryz.func242 J J J fun w0 S0=>au<|zo J (cq)<|aq<|ah<|au<|aF J<|zo J (iw gc J)<|zo J (bJ hI)<|aq<|ay<|ba (k:=6) J fun hN=>bG ?_;refine aT (eH (Z:=fun ls i=>(s.drop i=ls)∧cH f ls i=some R) (Of:=fun _ i=>[]) (Gf:=fun _ i=>[(0,bR (af) s),(1,(dK aO Ai kN (fun(x:ac)=>f x))),(7,kg s),(8,bH (i:Int))]) (fun i h=>?_) (fun e tl ih i h=>?_) s 0 ⟨J,h⟩) (bt J)
 ·obtain⟨hx,h⟩:=h
  refine aC<|au<|zo J (fG J J)<|aq<|ah<|bA (ht J) (dC hx)<|bu ?_;refine ai (ai (aN ?_));refine av<|au<|zo rfl (cq)<|aq<|ak ?_;cases so h;exact aG J J
 ·obtain⟨hx,h⟩:=h
  refine aC<|au<|zo J (fG J J)<|aq<|ah<|bz (ht J) (du hx)<|dR<|ah<|ay<|au<|aF J<|bm J<|aq<|au<|aF J<|aF J<|aF J<|zo J (lq gc aH J J J (cW hx)) ?_;refine zo J (bB aH J J)<|bv h fun r q_r h=>zo J (fN (args:=Ai) (res:=CQ) (f:=(fun(x:ac)=>f x)) (x:=((e):ac)) (ht J) q_r ⟨(ht J),aR⟩)<|aq<|cU h J (fun h=>?_) (fun h=>?_)
  ·refine au<|aF J<|bm J<|aq<|ak ?_;refine aD (ae (ae (aD (ae ?_))));cases so h;exact aG J J
  ·refine bw<|ap<|av<|aw<|zo rfl (mI (cQ hx hN) rfl)<|aF rfl<|aQ ?_;exact bg (aT (ih (i+1) ⟨cP hx,h⟩) (bt J))

theorem U3(s:(List ac))(f:(ac→Option Bool)){R:Bool}(h:gk s f=some R):aU aO 159 [bR (af) s,(dK aO Ai kN (fun(x:ac)=>f x))] (gY R):=by
 refine aU.of Tryz.func159 J J J fun w0 S0=>au<|zo J (jE)<|aq<|au<|aF J<|aF J<|bv h fun r q_r h=>zo J (aA aat (UI _ _ q_r) ⟨(ht J),(ht J),aR⟩)<|zo J (hT (ht J) hI)<|bm J<|aq<|ak ?_;cases so h;exact aG J J

theorem H9(r:(List ac)){R:Bool}(h:qd r=some R):aU aO 94 [bR (af) r] (gY R):=by
 refine aU.of Tryz.func94 J J J fun w0 S0=>au<|zo J (jE)<|aq<|au<|zo J (aJ (show aI _ _ _ ((dK aO Ai kN (fun(x:ac)=>qR x)))from(yX aa5 fun x y h=>U4 _ h)))<|aq<|au<|aF J<|zo J (iw gc J)<|zo J (lL (ht J) hI)<|aF J<|bv h fun t q_t h=>cR J J (fun hg=>cD J)<|cR J J (fun hg=>cD J) ?_
 obtain⟨r1,h1t,h0t⟩:=og q_t
 have q_r1g:=fun hb=>(h1t hb).1
 refine cR J J (fun hg=>aA aa4 (U3 _ _ (q_r1g hg)) ⟨(bD J hg),(bD J hg),aR⟩)<|cR J J (fun hg=>ei (bD J hg))<|zo J (dP (ht J) (fun hb=>(bD J hb)) (fun hb=>(h1t hb).2) h0t)<|bm J<|aq<|ak ?_;cases so h;exact aG J J

end Go.Proofs.YtfhhakidodmdfaaGreatDoor

