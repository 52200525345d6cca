/- di of this claim: P8. -/
import Derived.Test.YtfhhakidodmdfaaGreatDoorJcT
import Derived.Test.YtfhhakidodmdfaaGreatDoorJcP7
set_option linter.all false
namespace Go.Proofs.YtfhhakidodmdfaaGreatDoor
open Go
set_option maxRecDepth 100000

theorem aaq(b:Nat)(ix:OI)(r:dh)(n:ay){R:(List (List ac))×Int}(h:jR r n=some R):dl aU 53 [tV (aS b 0),tD aW n] (jE b r ix) (fun _:OI=>tT [cq (dg) R.1,bM R.2]) (fun _=>(jE b r ix)):=by
 refine dl.of Tryz.func53 J J J fun w0 S0=>?_;refine(show CG _ _ _ [bx (rH eS [(1,bc (ix.h 0).1 (ix.h 0).2 r.rows.length),(2,bc (ix.h 1).1 (ix.h 1).2 r.width.length)]) 96 b r,ez ee 32 (ix.h 0).1 (ix.h 0).2 r.rows,ez cj 3 (ix.h 1).1 (ix.h 1).2 r.width] _ from ?_);refine av<|zo J (gi J)<|zo J (aT (show aO _ _ _ we from kJ))<|zo J (bW)<|aq<|av<|ca false dg 43<|zo J (aT tg)<|aq<|ah<|ah<|bo h fun e q_e h=>?_
 refine cD (ts:=[_,_,_,_,_,_,_,_,_,_]) mixed J J
  ⟨dB 0 J J J (cX J),
  ⟨bT 11 0 J J J (dQ (ht J)),
  ⟨bT 12 1 J J J (je 1 rl J J J),
  ⟨bT 13 2 J J J (dx zf J (.tail _ (.head _)) (.tail _ (.tail _ (.head _))) (ht J)),
  ⟨dB 3 J J J (bX kq d9 J J),
  ⟨bT 15 4 J J J (bh cg J J),
  ⟨cK 14 3 16 5 J J J J (bF qP iy J (lJ (ht J)) (ht J) q_e),
  ⟨bT 17 6 J J J (bh iy J J),
  ⟨bT 18 7 J J J (jw jN J),
  ⟨NX J J (bJ hI),
  aL⟩⟩⟩⟩⟩⟩⟩⟩⟩⟩ ?_
 refine ax<|aC<|bp (k:=18) J fun hN=>bQ ?_;refine ba (kX (Z:=fun ls i out l c=>(e.drop i=ls)∧gr n ls out=some R) (Of:=fun _ i out l c=>[fL dg 43 l c out,bx (rH eS [(1,bc (ix.h 0).1 (ix.h 0).2 r.rows.length),(2,bc (ix.h 1).1 (ix.h 1).2 r.width.length)]) 96 b r,ez ee 32 (ix.h 0).1 (ix.h 0).2 r.rows,ez cj 3 (ix.h 1).1 (ix.h 1).2 r.width]) (Gf:=fun _ i out l c=>[(3,bN aW n),(6,sw l c out),(18,cq (dg) e),(19,ky e),(20,bM (i:Int))]) (fun i out l c h=>?_) (fun e1 tl ih i out l c h=>?_) e 0 HP none 0 ⟨J,h⟩) (bD J)
 ·obtain⟨hx,h⟩:=h
  refine aG<|av<|zo J (fY J J)<|aq<|ah<|bL (ht J) (dO hx)<|bG ?_;refine ak (ak (aV ?_));refine ax<|av<|aE rfl<|bg rfl<|zo rfl (bW)<|aq<|aj<|jS<|cP 6 rfl<|cP 40 rfl<|cP 4 rfl<|jT 4 rfl<|aZ<|aM<|aM<|aM ?_;cases so h;exact eN (ts:=[cq (dg) out,bM 0]) (rvs:=[.tmp 4,.tmp 5]) J J ⟨aK J,aK J,aL⟩ pj J J
 ·obtain⟨hx,h⟩:=h
  refine aG<|av<|zo J (fY J J)<|aq<|ah<|bK (ht J) (dL hx)<|df<|ah<|aC<|av<|zo J (ne jN eg J J J (dA hx))<|zo J (bh eg J J)<|bg J<|aq<|av<|zo J (bX wC pz J J)<|zo J (bh k5 J J)<|aE J ?_;refine bo h fun r1 q_r1 h=>zo J (ap XG (O7 _ _ q_r1) ⟨(ht J),(ht J),aL⟩)<|aE J<|zo J (dX J J)<|zo J (dX J J)<|bg J<|bg J<|aq<|ah<|av<|aE J<|zo J (sx J)<|aq<|ce h J (fun h=>?_) (fun h=>?_)
  ·refine av<|aE J<|zo J (aT (show aO _ _ _ we from kJ))<|bg J<|aq<|aj ?_;refine ae (aB (ae (ae (aB (ae ?_)))));refine aZ<|aM<|aM<|aM ?_;cases so h;exact eN (ts:=[cq (dg) ([]),bM r1.2]) (rvs:=[.tmp 4,.tmp 5]) J J ⟨aK J,aK J,aL⟩ pj J J
  ·refine df<|av<|aE J<|aq<|ce h J (fun h=>?_) (fun h=>?_)
   ·refine aA<|aE J<|aE J<|zo J (bf (r:=dg) (ys:=[e1]) (xs:=[.tmp 36]) jN eg J J J J J ⟨(ht J),aL⟩)<|bo h fun out1 q_out1 h=>cV eg J J J J jN J J (ht J) (ht J) q_out1 fun l1 c1=>bg J<|aQ<|aw<|ax<|aA<|zo rfl (nf (dd hx hN) rfl)<|aE rfl<|aQ ?_;exact bn (ba (ih (i+1) out1 l1 c1 ⟨dc hx,h⟩) (bD J))
   ·refine bA<|aw<|ax<|aA<|zo rfl (nf (dd hx hN) rfl)<|aE rfl<|aQ ?_;exact bn (ba (ih (i+1) out l c ⟨dc hx,h⟩) (bD J))

theorem V3(a1:gv)(rows:(List (List ac))){R:(List ac)×Int}(h:yi a1 rows=some R):aR aU 131 [tD eH a1,cq (dg) rows] (tT [cq (af) R.1,bM R.2]):=by
 refine aR.of Tryz.func131 J J J fun w0 S0=>av<|zo J (gi J)<|zo J (aT (show aO _ _ _ (cq (af) ([]))from kJ))<|zo J (bW)<|aq<|av<|ca false af 46<|zo J (aT tg)<|aq<|av<|zo J (bW)<|aq<|ah<|av<|aE J<|zo J (jw jN J) ?_;refine zo J (bJ hI)<|aq<|aC<|bp (k:=12) J fun hN=>bQ ?_;refine ba (su (Z:=fun ls i out l c fault=>(rows.drop i=ls)∧jJ a1 ls out fault=some R) (Of:=fun _ i out l c fault=>[fL af 46 l c out]) (Gf:=fun _ i out l c fault=>[(2,bN eH a1),(6,sw l c out),(7,bM fault),(12,cq (dg) rows),(13,ky rows),(14,bM (i:Int))]) (fun i out l c fault h=>?_) (fun e tl ih i out l c fault h=>?_) rows 0 F2 none 0 (0:Int) ⟨J,h⟩) (bD J)
 ·obtain⟨hx,h⟩:=h
  refine aG<|av<|zo J (fY J J)<|aq<|ah<|bL (ht J) (dO hx)<|bG ?_;refine ak (ak (aV ?_));refine ax<|av<|aE rfl<|aE rfl<|bg rfl<|bg rfl<|aq<|aj<|jS<|cP 6 rfl<|cP 41 rfl<|cP 4 rfl<|jT 4 rfl<|aZ ?_;cases so h;exact cW J J J
 ·obtain⟨hx,h⟩:=h
  refine aG<|av<|zo J (fY J J)<|aq<|ah<|bK (ht J) (dL hx)<|df<|ah<|aC<|av<|zo J (ne jN eg J J J (dA hx))<|zo J (bh eg J J)<|bg J<|aq<|av<|zo J (bX ua oh J J)<|zo J (bh k5 J J)<|aE J ?_;refine bo h fun r q_r h=>zo J (ap Tb (I6 _ _ q_r) ⟨(ht J),(ht J),aL⟩)<|aE J<|zo J (dX J J)<|zo J (dX J J)<|aP (r:=af) (x:=d3) au (fun _=>aJ _) J fun b=>am au J ai J (ht J) (ht J)<|aY 10 J<|bg J<|aq<|aC<|av<|aE J<|zo J (hM J)<|bg J<|aq<|ce h J (fun h=>?_) (fun h=>?_)
  ·refine aA<|aE J<|bg J<|aQ<|aw<|aw<|ax<|aA<|zo rfl (nf (dd hx hN) rfl)<|aE rfl<|aQ ?_;exact bn (ba (ih (i+1) out l c r.2 ⟨dc hx,h⟩) (bD J))
  ·refine av<|aE J<|zo J (sx J)<|bg J<|aq<|ce h J (fun h=>?_) (fun h=>?_)
   ·refine av<|zo J (aT (show aO _ _ _ (cq (af) ([]))from kJ))<|zo J (bW)<|aq<|aj ?_;refine aB (aB (ae (ae (aB (ae ?_)))));refine aZ ?_;cases so h;exact cW J J J
   ·refine av<|zo J (bX cz br J J)<|zo J (bh cg J J)<|zo J (sx J)<|bg J<|aq<|ce h J (fun h=>?_) (fun h=>?_)
    ·refine aA<|aE J<|zo J (bh au J J)<|zo J (bf (r:=af) (ys:=[r.1]) (xs:=[.tmp 37]) i7 au J J J J J ⟨(ht J),aL⟩)<|bo h fun out1 q_out1 h=>cV au J J J J i7 J J (ht J) (ht J) q_out1 fun l1 c1=>bg J<|aQ<|aw<|aw<|ax<|aA<|zo rfl (nf (dd hx hN) rfl)<|aE rfl<|aQ ?_;exact bn (ba (ih (i+1) out1 l1 c1 fault ⟨dc hx,h⟩) (bD J))
    ·refine bA<|aw<|aw<|ax<|aA<|zo rfl (nf (dd hx hN) rfl)<|aE rfl<|aQ ?_;exact bn (ba (ih (i+1) out l c fault ⟨dc hx,h⟩) (bD J))

theorem V2(v:ac){R:Bool}(h:m4 v=some R):aR aU 132 [tD af v] (hJ R):=by
 refine aR.of Tryz.func132 J J J fun w0 S0=>av<|zo J (gi J)<|zo J (jU)<|aq<|av<|zo J (bX cz br J J)<|zo J (bh cg J J)<|zo J (sx J)<|bg J<|aq<|aj ?_;cases so h;exact aH J J

theorem Vy(s:(List ac))(f:(ac→Option Bool)){R:Int}(h:gN s f=some R):aR aU 215 [cq (af) s,(ei aU AR mI (fun(x:ac)=>f x))] (bM R):=by
 refine aR.of Tryz.func215 J J J fun w0 S0=>av<|zo J (bW)<|aq<|ah<|av<|aE J<|zo J (jw i7 J)<|zo J (bJ hI)<|aq<|aC<|bp (k:=6) J fun hN=>bQ ?_;refine ba (fK (Z:=fun ls i=>(s.drop i=ls)∧dj f ls i=some R) (Of:=fun _ i=>[]) (Gf:=fun _ i=>[(0,cq (af) s),(1,(ei aU AR mI (fun(x:ac)=>f x))),(7,ky s),(8,bM (i:Int))]) (fun i h=>?_) (fun e tl ih i h=>?_) s 0 ⟨J,h⟩) (bD J)
 ·obtain⟨hx,h⟩:=h
  refine aG<|av<|zo J (fY J J)<|aq<|ah<|bL (ht J) (dO hx)<|bG ?_;refine ak (ak (aV ?_));refine ax<|av<|zo rfl (bW)<|aq<|aj ?_;cases so h;exact aH J J
 ·obtain⟨hx,h⟩:=h
  refine aG<|av<|zo J (fY J J)<|aq<|ah<|bK (ht J) (dL hx)<|df<|ah<|aC<|av<|aE J<|bg J<|aq<|av<|aE J<|aE J<|aE J<|zo J (ne i7 au J J J (dA hx)) ?_;refine zo J (bh au J J)<|bo h fun r q_r h=>zo J (io (args:=AR) (res:=HQ) (f:=(fun(x:ac)=>f x)) (x:=((e):ac)) (ht J) q_r ⟨(ht J),aL⟩)<|aq<|ce h J (fun h=>?_) (fun h=>?_)
  ·refine av<|aE J<|bg J<|aq<|aj ?_;refine aB (ae (ae (aB (ae ?_))));cases so h;exact aH J J
  ·refine bA<|aw<|ax<|aA<|zo rfl (nf (dd hx hN) rfl)<|aE rfl<|aQ ?_;exact bn (ba (ih (i+1) ⟨dc hx,h⟩) (bD J))

theorem V1(s:(List ac))(f:(ac→Option Bool)){R:Bool}(h:eC s f=some R):aR aU 133 [cq (af) s,(ei aU AR mI (fun(x:ac)=>f x))] (hJ R):=by
 refine aR.of Tryz.func133 J J J fun w0 S0=>av<|zo J (jU)<|aq<|av<|aE J<|aE J<|bo h fun r q_r h=>zo J (ap abE (Vy _ _ q_r) ⟨(ht J),(ht J),aL⟩)<|zo J (gh (ht J) hI)<|bg J<|aq<|aj ?_;cases so h;exact aH J J

theorem IV(v:ac){R:ac}(h:rq v=some R):aR aU 289 [tD af v] (tD af R):=by
 refine aR.of Tryz.func289 J J J fun w0 S0=>av<|zo J (gi J)<|aP (r:=af) (x:=d3) au (fun _=>aJ _) J fun b=>aq<|av<|zo J (bX eE bY J J)<|zo J (bh uq J J)<|zo J (sE (ht J) hI (by decide))<|zo J (bX eE bY J J)<|zo J (bh uq J J)<|zo J (mQ vh uW (ht J))<|zo J (bB (y:=(⟨(4:Int),((v.N).fdiv (2^(min (Int.toNat (63:Int)) IntKind.i64.bits))),(IntKind.u64.wrap v.N),[]⟩:ac)) au gW aJ (⟨_,_,_,_,_,J,jV,J,hI,⟨_,_,_,_,_,J,lL,J,(ht J),⟨_,_,_,_,_,J,wn,J,(ht J),J⟩⟩⟩))<|am au J ai J (ht J) (ht J)<|aY 2 J<|aq<|aj ?_;cases so h;exact eP J au J J J

theorem U6(s:ac)(t:ac){R:ac×Int}(h:wP s t=some R):aR aU 290 [tD af s,tD af t] (tT [tD af R.1,bM R.2]):=by
 refine aR.of Tryz.func290 J J J fun w0 S0=>av<|zo J (gi J)<|zo J (gi J)<|aP (r:=af) (x:=d3) au (fun _=>aJ _) J fun b=>zo J (bW)<|aq<|av<|zo J (bX pD hY J J)<|zo J (bh fU J J)<|zo J (bX pD hY J J)<|zo J (bh fU J J)<|bo h fun r q_r h=>zo J (Kz Tryz.func347 (by kernel_rfl) (by kernel_rfl) (by kernel_rfl) (by kernel_rfl) (ht J) (ht J) hI q_r)<|aE J<|zo J (dX J J)<|zo J (dX J J)<|bg J<|bg J<|aq ?_;refine av<|zo J (bX eE bY J J)<|zo J (bh uq J J)<|zo J (mQ vh uW (ht J))<|zo J (bX eE bY J J)<|zo J (bh uq J J)<|zo J (mQ vh uW (ht J))<|aE J<|bo h fun r1 q_r1 h=>zo J (Kz Tryz.func347 (by kernel_rfl) (by kernel_rfl) (by kernel_rfl) (by kernel_rfl) (ht J) (ht J) (ht J) q_r1)<|aE J<|zo J (dX J J)<|zo J (dX J J)<|bg J<|bg J<|aq<|av<|aE J<|zo J (mQ uW vh (ht J))<|bg J<|aQ ?_;refine ax<|ah<|av<|zo rfl (bX eE bY rfl rfl)<|zo rfl (bh uq rfl rfl)<|aE rfl<|zo rfl (Cg (ht rfl) (ht rfl))<|zo rfl (bX eE bY rfl rfl)<|zo rfl (bh uq rfl rfl)<|aE rfl<|zo rfl (Cg (ht rfl) (ht rfl))<|zo rfl (Ci (ht rfl) (ht rfl))<|zo rfl (dJ (ht rfl) hI)<|aq<|ce h rfl (fun h=>?_) (fun h=>?_)
 ·refine av<|zo J (bB (y:=d3) au gW aJ (J))<|am au J ai J (ht J) (ht J)<|zo J (bW)<|aq<|aj<|ae<|aF 4 J ?_;cases so h;exact be J J ⟨aN au J J J,aK J,aL⟩
 ·refine df<|av<|aE J<|aE J<|zo J (bB (y:=(⟨(4:Int),(IntKind.i64.wrap r1.1),r.1,[]⟩:ac)) au gW aJ (⟨_,_,_,_,_,J,jV,J,hI,⟨_,_,_,_,_,J,lL,J,(ht J),⟨_,_,_,_,_,J,wn,J,(ht J),J⟩⟩⟩))<|am au J ai J (ht J) (ht J)<|zo J (bW)<|aq<|aj<|aF 4 J ?_;cases so h;exact be J J ⟨aN au J J J,aK J,aL⟩

theorem Vx(s:ac)(v:ac){R:ac×Int}(h:tp s v=some R):aR aU 217 [tD af s,tD af v] (tT [tD af R.1,bM R.2]):=by
 refine aR.of Tryz.func217 J J J fun w0 S0=>av<|zo J (gi J)<|zo J (gi J)<|aP (r:=af) (x:=d3) au (fun _=>aJ _) J fun b=>zo J (bW)<|aq<|ah<|ah<|bo h fun r q_r h=>bo h fun r1 q_r1 h=>?_
 refine cD (ts:=[_,_,_,_,_,_,_,_]) mixed J J
  ⟨dB 2 J J J (bh au J J),
  ⟨bT 8 0 J J J (bf (r:=af) (ys:=[s]) (xs:=[.tmp 8]) i7 au J J J J J ⟨(ht J),aL⟩),
  ⟨bT 9 1 J J J (ap Pk (DV _ _ q_r) ⟨hI,(ht J),aL⟩),
  ⟨dB 3 J J J (bh au J J),
  ⟨bT 11 3 J J J (bf (r:=af) (ys:=[v]) (xs:=[.tmp 11]) i7 au J J J J J ⟨(ht J),aL⟩),
  ⟨bT 12 4 J J J (ap Pk (DV _ _ q_r1) ⟨hI,(ht J),aL⟩),
  ⟨bT 10 2 J J J (rN J),
  ⟨bT 13 5 J J J (rN J),
  aL⟩⟩⟩⟩⟩⟩⟩⟩ ?_
 refine ax<|aC<|av<|aE rfl<|zo rfl (hM rfl)<|aE rfl<|dD rfl rfl (fun hg=>cX J)<|dD J J (fun hg=>cd (bm J hg) hI)<|zo J (uo J J)<|bg J<|aq<|ce h J (fun h=>?_) (fun h=>?_)
 ·refine av<|zo J (bB (y:=d3) au gW aJ (J))<|am au J ai J (ht J) (ht J)<|zo J (bW)<|aq<|aj ?_;refine aB (ae ?_);refine aF 4 J ?_;cases so h;exact be J J ⟨aN au J J J,aK J,aL⟩
 ·refine av<|aE J<|zo J (sx J)<|aE J<|dD J J (fun hg=>cX J)<|dD J J (fun hg=>c9 (bm J hg) hI)<|zo J (uo J J)<|bg J<|aq<|ce h J (fun h=>?_) (fun h=>?_)
  ·refine av<|zo J (bB (y:=d3) au gW aJ (J))<|am au J ai J (ht J) (ht J)<|zo J (bW)<|aq<|aj ?_;refine aB (ae ?_);refine aF 4 J ?_;cases so h;exact be J J ⟨aN au J J J,aK J,aL⟩
  ·refine av<|zo J (bX cz br J J)<|zo J (bh cg J J)<|zo J (hM J)<|bg J<|aq<|ce h J (fun h=>?_) (fun h=>?_)
   ·refine av<|zo J (bh au J J)<|am au J ai J (ht J) (ht J)<|zo J (bW)<|aq<|aj ?_;refine aB (ae ?_);refine aF 4 J ?_;cases so h;exact be J J ⟨aN au J J J,aK J,aL⟩
   ·refine av<|zo J (bX cz br J J)<|zo J (bh cg J J)<|zo J (hM J)<|bg J<|aq<|ce h J (fun h=>?_) (fun h=>?_)
    ·refine av<|zo J (bh au J J)<|bo h fun r2 q_r2 h=>zo J (ap SV (IV _ q_r2) ⟨(ht J),aL⟩)<|am au J ai J (ht J) (ht J)<|zo J (bW)<|aq<|aj ?_;refine aB (ae ?_);refine aF 4 J ?_;cases so h;exact be J J ⟨aN au J J J,aK J,aL⟩
    ·refine bA<|aw<|ax<|ah<|bo h fun r3 q_r3 h=>bo h fun r4 q_r4 h=>?_
     refine my 6 (ts:=[tD af s,tD af v,tD af r3,tT [tD af r4.1,bM r4.2],tD af r4.1,bM r4.2]) mixed J J J
      ⟨dB 2 J J J (bh au J J),
      ⟨dB 3 J J J (bh au J J),
      ⟨bT 42 1 J J J (ap SV (IV _ q_r3) ⟨(ht J),aL⟩),
      ⟨cK 41 0 43 2 J J J J (ap aba (U6 _ _ q_r4) ⟨(ht J),(ht J),aL⟩),
      ⟨bT 44 3 J J J (dX J J),
      ⟨bT 44 3 J J J (dX J J),
      aL⟩⟩⟩⟩⟩⟩ ?_
     refine am au J ai J (ht J) (ht J)<|bg J<|aq<|aj<|aF 4 J ?_;cases so h;exact be J J ⟨aN au J J J,aK J,aL⟩

theorem Vw(s:ac){R:ac×Int}(h:yZ s=some R):aR aU 218 [tD af s] (tT [tD af R.1,bM R.2]):=by
 refine aR.of Tryz.func218 J J J fun w0 S0=>av<|zo J (gi J)<|aP (r:=af) (x:=d3) au (fun _=>aJ _) J fun b=>zo J (bW)<|aq<|ah<|av<|zo J (bh au J J)<|zo J (bf (r:=af) (ys:=[s]) (xs:=[.tmp 6]) i7 au J J J J J ⟨(ht J),aL⟩)<|bo h fun r q_r h=>zo J (ap Pk (DV _ _ q_r) ⟨hI,(ht J),aL⟩)<|bg J<|aq<|aC<|av<|aE J<|zo J (sx J)<|bg J ?_;refine aq<|ce h J (fun h=>?_) (fun h=>?_)
 ·refine av<|zo J (bB (y:=d3) au gW aJ (J))<|aE J<|am au J ai J (ht J) (ht J)<|bg J<|aq<|aj ?_;refine aB (ae ?_);refine aF 2 J ?_;cases so h;exact be J J ⟨aN au J J J,aK J,aL⟩
 ·refine av<|zo J (bX cz br J J)<|zo J (bh cg J J)<|zo J (hM J)<|bg J<|aq<|ce h J (fun h=>?_) (fun h=>?_)
  ·refine av<|zo J (bh au J J)<|am au J ai J (ht J) (ht J)<|zo J (bW)<|aq<|aj ?_;refine aB (ae ?_);refine aF 2 J ?_;cases so h;exact be J J ⟨aN au J J J,aK J,aL⟩
  ·refine bA<|aw<|ax<|ah<|av<|zo rfl (bX pD hY rfl rfl)<|zo rfl (bh fU rfl rfl)<|zo rfl (mQ uW vh (ht rfl))<|bo h fun r1 q_r1 h=>zo J (ap Lv (Bt _ q_r1) ⟨(ht J),aL⟩)<|aP (r:=af) (x:=d3) au (fun _=>aJ _) J fun b1=>am au J ai J (ht J) (ht J)<|aY 5 J<|aq<|ah<|bo h fun r2 q_r2 h=>?_
   refine cD (ts:=[_,_,_,_]) mixed J J
    ⟨dB 5 J J J (bh au J J),
    ⟨bT 23 0 J J J (ap SV (IV _ q_r2) ⟨(ht J),aL⟩),
    ⟨dB 1 J J J (bh au J J),
    ⟨cK 24 1 25 2 J J J J (pc Cr (ht J) (ht J)),
    aL⟩⟩⟩⟩ ?_
   refine ax<|ce h rfl (fun h=>?_) (fun h=>?_)
   ·refine av<|zo J (bh au J J)<|am au J ai J (ht J) (ht J)<|zo J (bW)<|aq<|aj<|ae<|aF 2 J ?_;cases so h;exact be J J ⟨aN au J J J,aK J,aL⟩
   ·refine df<|av<|zo J (bB (y:=d3) au gW aJ (J))<|am au J ai J (ht J) (ht J)<|zo J (bW)<|aq<|aj<|aF 2 J ?_;cases so h;exact be J J ⟨aN au J J J,aK J,aL⟩

theorem V0(l:(List ac)){R:ac×Int}(h:y4 l=some R):aR aU 134 [cq (af) l] (tT [tD af R.1,bM R.2]):=by
 refine aR.of Tryz.func134 J J J fun w0 S0=>av<|aP (r:=af) (x:=d3) au (fun _=>aJ _) J fun b=>zo J (bW)<|aq<|ah<|av<|aE J<|zo J (jw i7 J)<|zo J (iz (ht J) hI)<|aq<|ce h J (fun h=>?_) (fun h=>?_)
 ·refine av<|zo J (bB (y:=d3) au gW aJ (J))<|am au J ai J (ht J) (ht J)<|zo J (bW)<|aq<|aj<|ae<|aF 2 J ?_;cases so h;exact be J J ⟨aN au J J J,aK J,aL⟩
 ·refine df<|av<|bo h fun r q_r h=>zo J (ap S4 (I1 q_r) trivial)<|aP (r:=af) (x:=d3) au (fun _=>aJ _) J fun b1=>am au J ai J (ht J) (ht J)<|aq<|ah<|av<|aE J<|zo J (jw i7 J)<|zo J (bJ hI)<|aq<|aC<|bp (k:=14) J fun hN=>bQ<|iq ?_;refine ba (vS (Z:=fun ls i x s=>(l.drop i=ls)∧na ls x s=some R) (Of:=fun _ i x s=>[bx af 46 b x,bx af 46 b1 s]) (Gf:=fun _ i x s=>[(2,tV (aS b 0)),(4,tV (aS b1 0)),(14,cq (af) l),(15,ky l),(16,bM (i:Int))]) (fun i x s h=>?_) (fun e tl ih i x s h=>?_) l 0 d3 r ⟨J,h⟩) (bD J)
  ·obtain⟨hx,h⟩:=h
   refine aG<|av<|zo J (fY J J)<|aq<|ah<|bL (ht J) (dO hx)<|bG ?_;refine ak (ak (aV ?_));refine ax<|av<|zo rfl (bE au rfl rfl bw (.tail _ (.head _)) (ht rfl))<|bo h fun r1 q_r1 h=>zo J (ap abC (Vw _ q_r1) ⟨(ht J),aL⟩)<|zo J (dX J J)<|zo J (dX J J)<|am au J ai J (ht J) (ht J)<|bg J<|aq<|aj<|aF 2 J<|aZ ?_;cases so h;exact be J J ⟨aN au J J J,aK J,aL⟩
  ·obtain⟨hx,h⟩:=h
   refine aG<|av<|zo J (fY J J)<|aq<|ah<|bK (ht J) (dL hx)<|df<|ah<|aC<|av<|zo J (ne i7 au J J J (dA hx))<|zo J (bh au J J)<|aP (r:=af) (x:=d3) au (fun _=>aJ _) J fun b2=>am au J ai J (ht J) (ht J)<|aY 6 J<|aq<|av<|zo J (bE au J J bw (.tail _ (.head _)) (ht J)) ?_;refine zo J (bh au J J)<|bo h fun r2 q_r2 h=>zo J (ap abD (Vx _ _ q_r2) ⟨(ht J),(ht J),aL⟩)<|aE J<|zo J (dX J J)<|zo J (dX J J)<|aP (r:=af) (x:=d3) au (fun _=>aJ _) J fun b3=>am au J ai J (ht J) (ht J)<|aY 7 J<|bg J<|aq<|ah<|av<|aE J<|zo J (sx J)<|aq<|ce h J (fun h=>?_) (fun h=>?_)
   ·refine av<|zo J (bh au J J)<|aE J<|am au J ai J (ht J) (ht J)<|bg J<|aq<|aj ?_;refine ae (aB (ae (ae (aB (ae ?_)))));refine aF 2 J<|aZ ?_;cases so h;exact be J J ⟨aN au J J J,aK J,aL⟩
   ·refine df<|aA<|zo J (bh au J J)<|bq<|am au J ai J (ht J) (ht J)<|aQ<|aw<|ax<|aA<|zo rfl (nf (dd hx hN) rfl)<|aE rfl<|aQ<|bI ?_;exact bn (ba (ih (i+1) x r2.1 ⟨dc hx,h⟩) (bD J))

theorem VZ(p:(List ac))(cmp:(ac→ac→Option Int)){R:ac}(h:fi p cmp=some R):aR aU 135 [cq (af) p,(ei aU qH ze (fun(x:ac×ac)=>cmp x.1 x.2))] (tD af R):=by
 refine aR.of Tryz.func135 J J J fun w0 S0=>av<|aP (r:=af) (x:=d3) au (fun _=>aJ _) J fun b=>aq ?_;refine vW (Z:=gB p cmp=some R) (Of:=[bx af 46 b d3]) (Gf:=[(0,cq (af) p),(1,(ei aU qH ze (fun(x:ac×ac)=>cmp x.1 x.2))),(4,tV (aS b 0))]) (fun h=>?_) (fun K=>?_)
 ·skip
  refine av<|aE J<|bo h fun e q_e h=>zo J (bF i7 au J (ht J) hI q_e)<|zo J (bh au J J)<|aP (r:=af) (x:=d3) au (fun _=>aJ _) J fun b1=>am au J ai J (ht J) (ht J)<|aq<|ah<|av<|zo J (bW)<|aq<|aC<|bp (k:=0) J fun hN=>bQ<|iq ?_;refine ba (ox (Z:=fun ls i m=>(p.drop i=ls)∧cQ cmp ls m=some R) (Of:=fun _ i m=>[bx af 46 b d3,bx af 46 b1 m]) (Gf:=fun _ i m=>[(0,cq (af) p),(1,(ei aU qH ze (fun(x:ac×ac)=>cmp x.1 x.2))),(4,tV (aS b 0)),(5,tV (aS b1 0)),(6,bM (i:Int))]) (fun i m h=>?_) (fun e1 tl ih i m h=>?_) (p.drop (1)) 1 e ⟨J,h⟩) (bD J)
  ·obtain⟨hx,h⟩:=h
   refine aG<|ah<|av<|aE J<|aE J<|zo J (jw i7 J)<|zo J (fY J J)<|aq<|bL (ht J) (dO hx)<|bG ?_;refine ak (ak (aV ?_));refine ax<|av<|zo rfl (bE au rfl rfl bw (.tail _ (.head _)) (ht rfl))<|am au rfl ai rfl (ht rfl) (ht rfl)<|aY 4 rfl<|aq<|aj<|aZ ?_;cases so h;exact eP J au J J J
  ·obtain⟨hx,h⟩:=h
   refine aG<|ah<|av<|aE J<|aE J<|zo J (jw i7 J)<|zo J (fY J J)<|aq<|bK (ht J) (dL hx)<|df<|ah<|aC<|ah<|bo h fun r q_r h=>?_
   refine cD (ts:=[_,_,_,_,_,_,_,_]) mixed J J
    ⟨dB 1 J J J (cX J),
    ⟨dB 0 J J J (cX J),
    ⟨dB 6 J J J (cX J),
    ⟨cK 21 1 22 2 J J J J (ne i7 au J J J (dA hx)),
    ⟨bT 23 3 J J J (bh au J J),
    ⟨dB 5 J J J (bE au J J bw (.tail _ (.head _)) (ht J)),
    ⟨GI 20 0 24 4 25 5 J J J J J (io (args:=qH) (res:=TK) (f:=(fun(x:ac×ac)=>cmp x.1 x.2)) (x:=((e1,m):ac×ac)) (ht J) q_r ⟨(ht J),(ht J),aL⟩),
    ⟨bT 26 6 J J J (dJ (ht J) hI),
    aL⟩⟩⟩⟩⟩⟩⟩⟩ ?_
   refine ax<|ce h rfl (fun h=>?_) (fun h=>?_)
   ·refine aA<|aE J<|aE J<|zo J (ne i7 au J J J (dA hx))<|zo J (bh au J J)<|bq<|am au J ai J (ht J) (ht J)<|aQ<|aw<|ax<|aA<|aE rfl<|zo rfl (nf (dd hx hN) rfl)<|bg rfl<|aQ<|bI ?_;exact bn (ba (ih (i+1) e1 ⟨dc hx,h⟩) (bD J))
   ·refine bA<|aw<|ax<|aA<|aE rfl<|zo rfl (nf (dd hx hN) rfl)<|bg rfl<|aQ ?_;exact bn (ba (ih (i+1) m ⟨dc hx,h⟩) (bD J))
 ·skip
  refine av<|aE J<|zo J (jw i7 J)<|zo J (dJ (ht J) hI)<|aq<|ce h J (fun h=>?_) (fun h=>?_)
  ·refine aA ?_;exact(nn h).elim
  ·refine bA ?_;exact ci (K h) (bD J)

theorem VQ(v:ac){R:Bool}(h:rU v=some R):aR aU 158 [tD af v] (hJ R):=by
 refine aR.of Tryz.func158 J J J fun w0 S0=>av<|zo J (gi J)<|zo J (jU)<|aq<|av<|zo J (bh au J J)<|bo h fun r q_r h=>zo J (ap Lw (Bu _ q_r) ⟨(ht J),aL⟩)<|zo J (sx J)<|bg J<|aq<|aj ?_;cases so h;exact aH J J

theorem Vq(s:(List ac))(f:(ac→Option Bool)){R:Int}(h:kR s f=some R):aR aU 242 [cq (af) s,(ei aU AR mI (fun(x:ac)=>f x))] (bM R):=by
 refine aR.of Tryz.func242 J J J fun w0 S0=>av<|zo J (bW)<|aq<|ah<|av<|aE J<|zo J (jw iw J)<|zo J (bJ hI)<|aq<|aC<|bp (k:=6) J fun hN=>bQ ?_;refine ba (fK (Z:=fun ls i=>(s.drop i=ls)∧cS f ls i=some R) (Of:=fun _ i=>[]) (Gf:=fun _ i=>[(0,cq (af) s),(1,(ei aU AR mI (fun(x:ac)=>f x))),(7,ky s),(8,bM (i:Int))]) (fun i h=>?_) (fun e tl ih i h=>?_) s 0 ⟨J,h⟩) (bD J)
 ·obtain⟨hx,h⟩:=h
  refine aG<|av<|zo J (fY J J)<|aq<|ah<|bL (ht J) (dO hx)<|bG ?_;refine ak (ak (aV ?_));refine ax<|av<|zo rfl (bW)<|aq<|aj ?_;cases so h;exact aH J J
 ·obtain⟨hx,h⟩:=h
  refine aG<|av<|zo J (fY J J)<|aq<|ah<|bK (ht J) (dL hx)<|df<|ah<|aC<|av<|aE J<|bg J<|aq<|av<|aE J<|aE J<|aE J<|zo J (ne iw au J J J (dA hx)) ?_;refine zo J (bh au J J)<|bo h fun r q_r h=>zo J (io (args:=AR) (res:=HQ) (f:=(fun(x:ac)=>f x)) (x:=((e):ac)) (ht J) q_r ⟨(ht J),aL⟩)<|aq<|ce h J (fun h=>?_) (fun h=>?_)
  ·refine av<|aE J<|bg J<|aq<|aj ?_;refine aB (ae (ae (aB (ae ?_))));cases so h;exact aH J J
  ·refine bA<|aw<|ax<|aA<|zo rfl (nf (dd hx hN) rfl)<|aE rfl<|aQ ?_;exact bn (ba (ih (i+1) ⟨dc hx,h⟩) (bD J))

theorem VP(s:(List ac))(f:(ac→Option Bool)){R:Bool}(h:gD s f=some R):aR aU 159 [cq (af) s,(ei aU AR mI (fun(x:ac)=>f x))] (hJ R):=by
 refine aR.of Tryz.func159 J J J fun w0 S0=>av<|zo J (jU)<|aq<|av<|aE J<|aE J<|bo h fun r q_r h=>zo J (ap abw (Vq _ _ q_r) ⟨(ht J),(ht J),aL⟩)<|zo J (gh (ht J) hI)<|bg J<|aq<|aj ?_;cases so h;exact aH J J

theorem IQ(r:(List ac)){R:Bool}(h:qW r=some R):aR aU 94 [cq (af) r] (hJ R):=by
 refine aR.of Tryz.func94 J J J fun w0 S0=>av<|zo J (jU)<|aq<|av<|zo J (aT (show aO _ _ _ ((ei aU AR mI (fun(x:ac)=>rU x)))from(zJ acc fun x y h=>VQ _ h)))<|aq<|av<|aE J<|zo J (jw iw J)<|zo J (jZ (ht J) hI)<|aE J<|bo h fun t q_t h=>co J J (fun hg=>cX J)<|co J J (fun hg=>cX J) ?_
 obtain⟨r1,h1t,h0t⟩:=og q_t
 have q_r1g:=fun hb=>(h1t hb).1
 refine co J J (fun hg=>ap acb (VP _ _ (q_r1g hg)) ⟨(bm J hg),(bm J hg),aL⟩)<|co J J (fun hg=>cx (bm J hg))<|zo J (cH (ht J) (fun hb=>(bm J hb)) (fun hb=>(h1t hb).2) h0t)<|bg J<|aq<|aj ?_;cases so h;exact aH J J

end Go.Proofs.YtfhhakidodmdfaaGreatDoor

