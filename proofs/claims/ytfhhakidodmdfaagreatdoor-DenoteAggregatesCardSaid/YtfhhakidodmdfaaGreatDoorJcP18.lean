/- di of this claim: P18. -/
import Derived.Test.YtfhhakidodmdfaaGreatDoorJcT
import Derived.Test.YtfhhakidodmdfaaGreatDoorJcP17
set_option linter.all false
namespace Go.Proofs.YtfhhakidodmdfaaGreatDoor
open Go
set_option maxRecDepth 100000

theorem U3(a1:cu)(b:cu){R:cu}(h:mh a1 b=some R):aR aU 293 [tD bU a1,tD bU b] (tD bU R):=by
 refine aR.of Tryz.func293 J J J fun w0 S0=>av<|zo J (gi J)<|zo J (gi J)<|aP (r:=bU) (x:=qQ) fS (fun _=>sD _) J fun b1=>aq<|ah<|bo h fun e q_e h=>bo h fun e1 q_e1 h=>bo h fun e2 q_e2 h=>bo h fun e3 q_e3 h=>?_
 refine cD (ts:=[_,_,_,_,_,_,_,_,_,_,_,_,_,_,_,_,_,_]) mixed J J
  ⟨dB 2 J J J (bX ge eM J J),
  ⟨bT 8 0 J J J (ek pi fU J (ht J) hI q_e),
  ⟨bT 9 1 J J J (bh fU J J),
  ⟨bT 10 2 J J J (Io (ht J) hI (by decide)),
  ⟨dB 2 J J J (bX ge eM J J),
  ⟨bT 12 4 J J J (ek pi fU J (ht J) hI q_e1),
  ⟨bT 13 5 J J J (bh fU J J),
  ⟨cK 11 3 14 6 J J J J (fV (ht J) (ht J)),
  ⟨dB 3 J J J (bX ge eM J J),
  ⟨bT 16 8 J J J (ek pi fU J (ht J) hI q_e2),
  ⟨bT 17 9 J J J (bh fU J J),
  ⟨bT 18 10 J J J (Io (ht J) hI (by decide)),
  ⟨dB 3 J J J (bX ge eM J J),
  ⟨bT 20 12 J J J (ek pi fU J (ht J) hI q_e3),
  ⟨bT 21 13 J J J (bh fU J J),
  ⟨cK 19 11 22 14 J J J J (fV (ht J) (ht J)),
  ⟨bT 15 7 J J J (rN J),
  ⟨bT 23 15 J J J (rN J),
  aL⟩⟩⟩⟩⟩⟩⟩⟩⟩⟩⟩⟩⟩⟩⟩⟩⟩⟩ ?_
 refine ax<|av<|aE rfl<|aE rfl<|bo h fun u q_u h=>zo J (RE (ht J) (ht J) (Ok q_u))<|bg J<|aq<|av<|aE J<|zo J (Ch (ht J) hI (by decide))<|aE J<|zo J (sE (ht J) hI (by decide))<|zo J (ET (r:=ni) (x:=PJ) pi fU J Re (fun _=>BL (r:=ni) 8 (fun _=>J) _) ⟨_,J,(ht J),⟨_,J,(ht J),J⟩⟩)<|zo J (bX lD mj J J)<|zo J (bh yy J J)<|zo J (bX lD mj J J)<|zo J (bh yy J J)<|zo J (Bc CX (ht J) (ht J))<|aE J<|co J J (fun hg=>cX J) ?_;refine co J J (fun hg=>c9 (bm J hg) hI)<|zo J (pH J J)<|zo J (bB (y:=(⟨((PJ.set 0 (((IntKind.u64.wrap (((IntKind.u64.wrap ((IntKind.u64.wrap (e*2^zZ))+e1))).tdiv (IntKind.u64.wrap ((IntKind.u64.wrap (e2*2^zZ))+e3))))).tmod (4294967296:Int))).set 1 (((IntKind.u64.wrap (((IntKind.u64.wrap ((IntKind.u64.wrap (e*2^zZ))+e1))).tdiv (IntKind.u64.wrap ((IntKind.u64.wrap (e2*2^zZ))+e3))))).fdiv AQ)),((a1.Below !=b.Below)&&((IntKind.u64.wrap (((IntKind.u64.wrap ((IntKind.u64.wrap (e*2^zZ))+e1))).tdiv (IntKind.u64.wrap ((IntKind.u64.wrap (e2*2^zZ))+e3)))) !=(0:Int)))⟩:cu)) fS W0 sD (⟨_,_,_,_,_,J,qg,J,(ht J),⟨_,_,_,_,_,J,vq,J,(ht J),J⟩⟩))<|am fS J ai J (ht J) (ht J)<|aY 4 J<|aq<|aj ?_;cases so h;exact eP J fS J J J

theorem Bq(op:Int)(a1:ac)(b:ac){R:ac×Int}(h:iL op a1 b=some R):aR aU 220 [tD (rI .u8) op,tD af a1,tD af b] (tT [tD af R.1,bM R.2]):=by
 refine aR.of Tryz.func220 J J J fun w0 S0=>av<|zo J (gi J)<|zo J (gi J)<|aP (r:=af) (x:=d3) au (fun _=>aJ _) J fun b1=>zo J (bW)<|aq<|ah<|aC<|av<|zo J (bh au J J)<|bo h fun r q_r h=>zo J (ap Cz (rm _ q_r) ⟨(ht J),aL⟩)<|zo J (cx (ht J))<|aE J<|bo h fun t q_t h=>dD J J (fun hg=>bh au J J) ?_
 obtain⟨r1,h1t,h0t⟩:=og q_t
 have q_r1g:=fun hb=>(h1t hb).1
 refine dD J J (fun hg=>ap Cz (rm _ (q_r1g hg)) ⟨(bm J hg),aL⟩)<|dD J J (fun hg=>cx (bm J hg))<|zo J (eO (ht J) (fun hb=>(bm J (qo hb))) (fun hb=>(h1t hb).2) h0t)<|bg J<|aq<|ce h J (fun h=>?_) (fun h=>?_)
 ·refine av<|zo J (bB (y:=d3) au gW aJ (J))<|am au J ai J (ht J) (ht J)<|zo J (bW)<|aq<|aj ?_;refine aB (ae ?_);refine aF 6 J ?_;cases so h;exact be J J ⟨aN au J J J,aK J,aL⟩
 ·refine av<|zo J (bh au J J)<|bo h fun r2 q_r2 h=>zo J (ap S9 (I4 _ q_r2) ⟨(ht J),aL⟩)<|zo J (cx (ht J))<|aE J<|bo h fun t1 q_t1 h=>dD J J (fun hg=>bh au J J) ?_
  obtain⟨r3,h1t1,h0t1⟩:=og q_t1
  have q_r3g:=fun hb=>(h1t1 hb).1
  refine dD J J (fun hg=>ap S9 (I4 _ (q_r3g hg)) ⟨(bm J hg),aL⟩)<|dD J J (fun hg=>cx (bm J hg))<|zo J (eO (ht J) (fun hb=>(bm J (qo hb))) (fun hb=>(h1t1 hb).2) h0t1)<|bg J<|aq<|ce h J (fun h=>?_) (fun h=>?_)
  ·refine av<|zo J (bB (y:=d3) au gW aJ (J))<|am au J ai J (ht J) (ht J)<|zo J (bW)<|aq<|aj ?_;refine aB (ae ?_);refine aF 6 J ?_;cases so h;exact be J J ⟨aN au J J J,aK J,aL⟩
  ·refine av<|zo J (bX cz br J J)<|zo J (bh cg J J)<|zo J (hM J)<|aE J<|dD J J (fun hg=>bX cz br J J)<|dD J J (fun hg=>bj cg J J (bm J hg))<|dD J J (fun hg=>cd (bm J hg) hI)<|zo J (uo J J)<|bg J<|aq<|ce h J (fun h=>?_) (fun h=>?_)
   ·refine av<|zo J (bB (y:=d3) au gW aJ (J))<|am au J ai J (ht J) (ht J)<|zo J (bW)<|aq<|aj ?_;refine aB (ae ?_);refine aF 6 J ?_;cases so h;exact be J J ⟨aN au J J J,aK J,aL⟩
   ·refine bA<|aw<|ax<|av<|aP (r:=bU) (x:=qQ) fS (fun _=>sD _) J fun b2=>aq<|ah<|av<|aE J<|aq<|aC<|av<|zo J (hM J)<|bg J<|aq<|ce h J (fun h=>?_) (fun h=>?_)
    ·refine bo h fun r4 q_r4 h=>bo h fun r5 q_r5 h=>bo h fun r6 q_r6 h=>?_
     refine my 7 (ts:=[bN cj a1.N,bM a1.N,tD bU r4,bN cj b.N,bM b.N,tD bU r5,tD bU r6]) mixed J J J
      ⟨dB 4 J J J (bX eE bY J J),
      ⟨bT 55 0 J J J (bh uq J J),
      ⟨bT 56 1 J J J (ap zN (rG _ q_r4) ⟨(ht J),aL⟩),
      ⟨dB 5 J J J (bX eE bY J J),
      ⟨bT 58 3 J J J (bh uq J J),
      ⟨bT 59 4 J J J (ap zN (rG _ q_r5) ⟨(ht J),aL⟩),
      ⟨cK 57 2 60 5 J J J J (ap S8 (I3 _ _ q_r6) ⟨(ht J),(ht J),aL⟩),
      aL⟩⟩⟩⟩⟩⟩⟩ ?_
     refine am fS J ai J (ht J) (ht J)<|aQ<|aw<|ax<|av<|zo rfl (bE fS rfl rfl bw (.head _) (ht rfl))<|bo h fun r7 q_r7 h=>zo J (ap Lu (Bs _ q_r7) ⟨(ht J),aL⟩)<|aE J<|zo J (dX J J)<|zo J (dX J J)<|bg J<|bg J<|aq<|ah<|av<|aE J<|zo J (cx (ht J))<|aq<|ce h J (fun h=>?_) (fun h=>?_)
     ·refine av<|zo J (bB (y:=d3) au gW aJ (J))<|bq<|am au J ai J (ht J) (ht J)<|zo J (bW)<|aq<|aj<|ae<|aF 6 J<|aZ ?_;cases so h;exact be J J ⟨aN au J J J,aK J,aL⟩
     ·refine df<|av<|aE J<|bo h fun r8 q_r8 h=>zo J (ap Lr (yf _ q_r8) ⟨(ht J),aL⟩)<|bq<|am au J ai J (ht J) (ht J)<|zo J (bW)<|aq<|aj<|aF 6 J<|aZ ?_;cases so h;exact be J J ⟨aN au J J J,aK J,aL⟩
    ·refine av<|zo J (hM J)<|bg J<|aq<|ce h J (fun h=>?_) (fun h=>?_)
     ·refine bo h fun r9 q_r9 h=>bo h fun r10 q_r10 h=>bo h fun r11 q_r11 h=>bo h fun r12 q_r12 h=>?_
      refine my 8 (ts:=[bN cj a1.N,bM a1.N,tD bU r9,bN cj b.N,bM b.N,tD bU r10,tD bU r11,tD bU r12]) mixed J J J
       ⟨dB 4 J J J (bX eE bY J J),
       ⟨bT 64 0 J J J (bh uq J J),
       ⟨bT 65 1 J J J (ap zN (rG _ q_r9) ⟨(ht J),aL⟩),
       ⟨dB 5 J J J (bX eE bY J J),
       ⟨bT 67 3 J J J (bh uq J J),
       ⟨bT 68 4 J J J (ap zN (rG _ q_r10) ⟨(ht J),aL⟩),
       ⟨bT 69 5 J J J (ap aa9 (U5 _ q_r11) ⟨(ht J),aL⟩),
       ⟨cK 66 2 70 6 J J J J (ap S8 (I3 _ _ q_r12) ⟨(ht J),(ht J),aL⟩),
       aL⟩⟩⟩⟩⟩⟩⟩⟩ ?_
      refine am fS J ai J (ht J) (ht J)<|aQ<|aw<|ax<|av<|zo rfl (bE fS rfl rfl bw (.head _) (ht rfl))<|bo h fun r13 q_r13 h=>zo J (ap Lu (Bs _ q_r13) ⟨(ht J),aL⟩)<|aE J<|zo J (dX J J)<|zo J (dX J J)<|bg J<|bg J<|aq<|ah<|av<|aE J<|zo J (cx (ht J))<|aq<|ce h J (fun h=>?_) (fun h=>?_)
      ·refine av<|zo J (bB (y:=d3) au gW aJ (J))<|bq<|am au J ai J (ht J) (ht J)<|zo J (bW)<|aq<|aj<|ae<|aF 6 J<|aZ ?_;cases so h;exact be J J ⟨aN au J J J,aK J,aL⟩
      ·refine df<|av<|aE J<|bo h fun r14 q_r14 h=>zo J (ap Lr (yf _ q_r14) ⟨(ht J),aL⟩)<|bq<|am au J ai J (ht J) (ht J)<|zo J (bW)<|aq<|aj<|aF 6 J<|aZ ?_;cases so h;exact be J J ⟨aN au J J J,aK J,aL⟩
     ·refine av<|zo J (hM J)<|bg J<|aq<|ce h J (fun h=>?_) (fun h=>?_)
      ·refine bo h fun r15 q_r15 h=>bo h fun r16 q_r16 h=>bo h fun r17 q_r17 h=>?_
       refine my 7 (ts:=[bN cj a1.N,bM a1.N,tD bU r15,bN cj b.N,bM b.N,tD bU r16,tD bU r17]) mixed J J J
        ⟨dB 4 J J J (bX eE bY J J),
        ⟨bT 74 0 J J J (bh uq J J),
        ⟨bT 75 1 J J J (ap zN (rG _ q_r15) ⟨(ht J),aL⟩),
        ⟨dB 5 J J J (bX eE bY J J),
        ⟨bT 77 3 J J J (bh uq J J),
        ⟨bT 78 4 J J J (ap zN (rG _ q_r16) ⟨(ht J),aL⟩),
        ⟨cK 76 2 79 5 J J J J (ap aa8 (U4 _ _ q_r17) ⟨(ht J),(ht J),aL⟩),
        aL⟩⟩⟩⟩⟩⟩⟩ ?_
       refine am fS J ai J (ht J) (ht J)<|aQ<|aw<|ax<|av<|zo rfl (bE fS rfl rfl bw (.head _) (ht rfl))<|bo h fun r18 q_r18 h=>zo J (ap Lu (Bs _ q_r18) ⟨(ht J),aL⟩)<|aE J<|zo J (dX J J)<|zo J (dX J J)<|bg J<|bg J<|aq<|ah<|av<|aE J<|zo J (cx (ht J))<|aq<|ce h J (fun h=>?_) (fun h=>?_)
       ·refine av<|zo J (bB (y:=d3) au gW aJ (J))<|bq<|am au J ai J (ht J) (ht J)<|zo J (bW)<|aq<|aj<|ae<|aF 6 J<|aZ ?_;cases so h;exact be J J ⟨aN au J J J,aK J,aL⟩
       ·refine df<|av<|aE J<|bo h fun r19 q_r19 h=>zo J (ap Lr (yf _ q_r19) ⟨(ht J),aL⟩)<|bq<|am au J ai J (ht J) (ht J)<|zo J (bW)<|aq<|aj<|aF 6 J<|aZ ?_;cases so h;exact be J J ⟨aN au J J J,aK J,aL⟩
      ·refine ah<|av<|zo J (bX eE bY J J)<|zo J (bh uq J J)<|zo J (hM J)<|aq<|ce h J (fun h=>?_) (fun h=>?_)
       ·refine av<|zo J (bB (y:=d3) au gW aJ (J))<|bq<|am au J ai J (ht J) (ht J)<|zo J (bW)<|aq<|aj ?_;refine ae (aB (ae ?_));refine aF 6 J<|aZ ?_;cases so h;exact be J J ⟨aN au J J J,aK J,aL⟩
       ·refine df<|bo h fun r20 q_r20 h=>bo h fun r21 q_r21 h=>bo h fun r22 q_r22 h=>?_
        refine my 7 (ts:=[bN cj a1.N,bM a1.N,tD bU r20,bN cj b.N,bM b.N,tD bU r21,tD bU r22]) mixed J J J
         ⟨dB 4 J J J (bX eE bY J J),
         ⟨bT 46 0 J J J (bh uq J J),
         ⟨bT 47 1 J J J (ap zN (rG _ q_r20) ⟨(ht J),aL⟩),
         ⟨dB 5 J J J (bX eE bY J J),
         ⟨bT 49 3 J J J (bh uq J J),
         ⟨bT 50 4 J J J (ap zN (rG _ q_r21) ⟨(ht J),aL⟩),
         ⟨cK 48 2 51 5 J J J J (ap aa7 (U3 _ _ q_r22) ⟨(ht J),(ht J),aL⟩),
         aL⟩⟩⟩⟩⟩⟩⟩ ?_
        refine am fS J ai J (ht J) (ht J)<|aQ<|aw<|ax<|av<|zo rfl (bE fS rfl rfl bw (.head _) (ht rfl))<|bo h fun r23 q_r23 h=>zo J (ap Lu (Bs _ q_r23) ⟨(ht J),aL⟩)<|aE J<|zo J (dX J J)<|zo J (dX J J)<|bg J<|bg J<|aq<|ah<|av<|aE J<|zo J (cx (ht J))<|aq<|ce h J (fun h=>?_) (fun h=>?_)
        ·refine av<|zo J (bB (y:=d3) au gW aJ (J))<|bq<|am au J ai J (ht J) (ht J)<|zo J (bW)<|aq<|aj<|ae<|aF 6 J<|aZ ?_;cases so h;exact be J J ⟨aN au J J J,aK J,aL⟩
        ·refine df<|av<|aE J<|bo h fun r24 q_r24 h=>zo J (ap Lr (yf _ q_r24) ⟨(ht J),aL⟩)<|bq<|am au J ai J (ht J) (ht J)<|zo J (bW)<|aq<|aj<|aF 6 J<|aZ ?_;cases so h;exact be J J ⟨aN au J J J,aK J,aL⟩

theorem wF(b:Bool){R:ac}(h:jY b=some R):aR aU 224 [hJ b] (tD af R):=by
 refine aR.of Tryz.func224 J J J fun w0 S0=>av<|aP (r:=af) (x:=d3) au (fun _=>aJ _) J fun b1=>aq<|ah<|av<|aE J<|aq<|ce h J (fun h=>?_) (fun h=>?_)
 ·refine av<|zo J (bB (y:=(⟨(1:Int),(1:Int),(0:Int),[]⟩:ac)) au gW aJ (⟨_,_,_,_,_,J,jV,J,hI,⟨_,_,_,_,_,J,lL,J,hI,J⟩⟩))<|am au J ai J (ht J) (ht J)<|aq<|aj<|ae<|aF 2 J ?_;cases so h;exact eP J au J J J
 ·refine df<|av<|zo J (bB (y:=PK) au gW aJ (⟨_,_,_,_,_,J,jV,J,hI,J⟩))<|am au J ai J (ht J) (ht J)<|aq<|aj<|aF 2 J ?_;cases so h;exact eP J au J J J

theorem IU(a1:ac)(b:ac){R:Int}(h:oB a1 b=some R):aR aU 294 [tD af a1,tD af b] (bM R):=by
 refine aR.of Tryz.func294 J J J fun w0 S0=>av<|zo J (gi J)<|zo J (gi J)<|zo J (bW)<|aq<|ah<|aC<|av<|zo J (bh au J J)<|bo h fun r q_r h=>zo J (ap Cz (rm _ q_r) ⟨(ht J),aL⟩)<|zo J (cx (ht J))<|aE J<|bo h fun t q_t h=>dD J J (fun hg=>bh au J J) ?_
 obtain⟨r1,h1t,h0t⟩:=og q_t
 have q_r1g:=fun hb=>(h1t hb).1
 refine dD J J (fun hg=>ap Cz (rm _ (q_r1g hg)) ⟨(bm J hg),aL⟩)<|dD J J (fun hg=>cx (bm J hg))<|zo J (eO (ht J) (fun hb=>(bm J (qo hb))) (fun hb=>(h1t hb).2) h0t)<|bg J<|aq<|ce h J (fun h=>?_) (fun h=>?_)
 ·refine av<|zo J (bW)<|aq<|aj ?_;refine aB (ae ?_);cases so h;exact aH J J
 ·refine av<|zo J (bX cz br J J)<|zo J (bh cg J J)<|zo J (iz (ht J) hI)<|aE J<|dD J J (fun hg=>bX cz br J J)<|dD J J (fun hg=>bj cg J J (bm J hg))<|dD J J (fun hg=>iz (bm J hg) hI)<|zo J (uo J J)<|bg J<|aq<|ce h J (fun h=>?_) (fun h=>?_)
  ·refine av<|zo J (bW)<|aq<|aj ?_;refine aB (ae ?_);cases so h;exact aH J J
  ·refine bA<|aw<|ax<|av<|zo rfl (bW)<|aq<|aj ?_;cases so h;exact aH J J

theorem wG(a1:ac){R:ac×Int}(h:iQ a1=some R):aR aU 221 [tD af a1] (tT [tD af R.1,bM R.2]):=by
 refine aR.of Tryz.func221 J J J fun w0 S0=>av<|zo J (gi J)<|aP (r:=af) (x:=d3) au (fun _=>aJ _) J fun b=>zo J (bW)<|aq<|av<|zo J (bh au J J)<|zo J (bh au J J)<|bo h fun r q_r h=>zo J (ap SU (IU _ _ q_r) ⟨(ht J),(ht J),aL⟩)<|bg J<|aq<|ah<|av<|aE J<|zo J (sx J)<|aE J<|dD J J (fun hg=>bX cz br J J) ?_;refine dD J J (fun hg=>bj cg J J (bm J hg))<|dD J J (fun hg=>cd (bm J hg) hI)<|zo J (uo J J)<|aq<|ce h J (fun h=>?_) (fun h=>?_)
 ·refine av<|zo J (bB (y:=d3) au gW aJ (J))<|aE J<|am au J ai J (ht J) (ht J)<|bg J<|aq<|aj<|ae<|aF 2 J ?_;cases so h;exact be J J ⟨aN au J J J,aK J,aL⟩
 ·refine df<|av<|zo J (bX eE bY J J)<|zo J (bh uq J J)<|zo J (hM J)<|bo h fun r1 q_r1 h=>zo J (ap Ft (wF _ q_r1) ⟨(ht J),aL⟩)<|am au J ai J (ht J) (ht J)<|zo J (bW)<|aq<|aj<|aF 2 J ?_;cases so h;exact be J J ⟨aN au J J J,aK J,aL⟩

theorem OZ(a1:ac)(b:ac){R:ac×Int}(h:q6 a1 b=some R):aR aU 222 [tD af a1,tD af b] (tT [tD af R.1,bM R.2]):=by
 refine aR.of Tryz.func222 J J J fun w0 S0=>av<|zo J (gi J)<|zo J (gi J)<|aP (r:=af) (x:=d3) au (fun _=>aJ _) J fun b1=>zo J (bW)<|aq<|av<|zo J (bh au J J)<|zo J (bh au J J)<|bo h fun r q_r h=>zo J (ap SU (IU _ _ q_r) ⟨(ht J),(ht J),aL⟩)<|bg J<|aq<|av<|bo h fun r1 q_r1 h=>zo J (ap Ft (wF _ q_r1) ⟨hB,aL⟩)<|aP (r:=af) (x:=d3) au (fun _=>aJ _) J fun b2=>am au J ai J (ht J) (ht J) ?_;refine aY 7 J<|aq<|ah<|aC<|av<|aE J<|zo J (sx J)<|bg J<|aq<|ce h J (fun h=>?_) (fun h=>?_)
 ·refine av<|zo J (bB (y:=d3) au gW aJ (J))<|aE J<|am au J ai J (ht J) (ht J)<|bg J<|aq<|aj ?_;refine aB (ae ?_);refine aF 4 J ?_;cases so h;exact be J J ⟨aN au J J J,aK J,aL⟩
 ·refine av<|zo J (bh au J J)<|zo J (bh au J J)<|zo J (pc Cr (ht J) (ht J))<|aE J<|dD J J (fun hg=>bh au J J)<|dD J J (fun hg=>bh au J J)<|dD J J (fun hg=>pc Cr (bm J hg) (bm J hg))<|zo J (uo J J)<|bg J<|aq<|ce h J (fun h=>?_) (fun h=>?_)
  ·refine av<|zo J (bh au J J)<|am au J ai J (ht J) (ht J)<|zo J (bW)<|aq<|aj ?_;refine aB (ae ?_);refine aF 4 J ?_;cases so h;exact be J J ⟨aN au J J J,aK J,aL⟩
  ·refine av<|zo J (bX cz br J J)<|zo J (bh cg J J)<|zo J (hM J)<|aE J<|dD J J (fun hg=>bX cz br J J)<|dD J J (fun hg=>bj cg J J (bm J hg))<|dD J J (fun hg=>cd (bm J hg) hI)<|zo J (uo J J)<|bg J<|aq<|ce h J (fun h=>?_) (fun h=>?_)
   ·refine av<|zo J (bB (y:=d3) au gW aJ (J))<|am au J ai J (ht J) (ht J)<|zo J (bW)<|aq<|aj ?_;refine aB (ae ?_);refine aF 4 J ?_;cases so h;exact be J J ⟨aN au J J J,aK J,aL⟩
   ·refine bA<|aw<|ax<|av<|bo h fun r2 q_r2 h=>zo J (ap Ft (wF _ q_r2) ⟨hB,aL⟩)<|am au J ai J (ht J) (ht J)<|zo J (bW)<|aq<|aj<|aF 4 J ?_;cases so h;exact be J J ⟨aN au J J J,aK J,aL⟩

theorem Vu(a1:ac)(b:ac){R:ac×Int}(h:vz a1 b=some R):aR aU 223 [tD af a1,tD af b] (tT [tD af R.1,bM R.2]):=by
 refine aR.of Tryz.func223 J J J fun w0 S0=>av<|zo J (gi J)<|zo J (gi J)<|aP (r:=af) (x:=d3) au (fun _=>aJ _) J fun b1=>zo J (bW)<|aq<|ah<|av<|zo J (bh au J J)<|zo J (bh au J J)<|bo h fun r q_r h=>zo J (ap SU (IU _ _ q_r) ⟨(ht J),(ht J),aL⟩)<|bg J<|aq<|av<|aE J<|zo J (sx J)<|aQ ?_;refine ax<|ce h rfl (fun h=>?_) (fun h=>?_)
 ·refine av<|zo J (bB (y:=d3) au gW aJ (J))<|aE J<|am au J ai J (ht J) (ht J)<|bg J<|aq<|aj<|ae<|aF 4 J ?_;cases so h;exact be J J ⟨aN au J J J,aK J,aL⟩
 ·refine df<|av<|zo J (bh au J J)<|bo h fun r1 q_r1 h=>zo J (ap Fu (wG _ q_r1) ⟨(ht J),aL⟩)<|aE J<|zo J (dX J J)<|zo J (dX J J)<|aP (r:=af) (x:=d3) au (fun _=>aJ _) J fun b2=>am au J ai J (ht J) (ht J)<|aY 7 J<|bg J<|aq<|av<|zo J (bh au J J)<|bo h fun r2 q_r2 h=>zo J (ap Fu (wG _ q_r2) ⟨(ht J),aL⟩)<|aE J<|zo J (dX J J)<|zo J (dX J J) ?_;refine aP (r:=af) (x:=d3) au (fun _=>aJ _) J fun b3=>am au J ai J (ht J) (ht J)<|aY 9 J<|bg J<|aq<|av<|zo J (bh au J J)<|zo J (bh au J J)<|bo h fun r3 q_r3 h=>zo J (ap Xy (OZ _ _ q_r3) ⟨(ht J),(ht J),aL⟩)<|aE J<|zo J (dX J J)<|zo J (dX J J)<|aP (r:=af) (x:=d3) au (fun _=>aJ _) J fun b4=>am au J ai J (ht J) (ht J)<|aY 11 J<|bg J<|aq<|av<|zo J (bh au J J) ?_;refine bo h fun r4 q_r4 h=>zo J (ap Fu (wG _ q_r4) ⟨(ht J),aL⟩)<|zo J (dX J J)<|zo J (dX J J)<|am au J ai J (ht J) (ht J)<|bg J<|aq<|aj<|aF 4 J ?_;cases so h;exact be J J ⟨aN au J J J,aK J,aL⟩

theorem OK(a1:ac)(b:ac){R:Int}(h:q5 a1 b=some R):aR aU 348 [tD af a1,tD af b] (bM R):=by
 refine aR.of Tryz.func348 J J J fun w0 S0=>av<|zo J (gi J)<|zo J (gi J)<|zo J (bW)<|aq<|ah<|aC<|av<|zo J (bh au J J)<|bo h fun r q_r h=>zo J (ap Cz (rm _ q_r) ⟨(ht J),aL⟩)<|zo J (cx (ht J))<|aE J<|bo h fun t q_t h=>dD J J (fun hg=>bh au J J) ?_
 obtain⟨r1,h1t,h0t⟩:=og q_t
 have q_r1g:=fun hb=>(h1t hb).1
 refine dD J J (fun hg=>ap Cz (rm _ (q_r1g hg)) ⟨(bm J hg),aL⟩)<|dD J J (fun hg=>cx (bm J hg))<|zo J (eO (ht J) (fun hb=>(bm J (qo hb))) (fun hb=>(h1t hb).2) h0t)<|bg J<|aq<|ce h J (fun h=>?_) (fun h=>?_)
 ·refine av<|zo J (bW)<|aq<|aj ?_;refine aB (ae ?_);cases so h;exact aH J J
 ·refine av<|zo J (bh au J J)<|bo h fun r2 q_r2 h=>zo J (ap Ho (yT _ q_r2) ⟨(ht J),aL⟩)<|zo J (cx (ht J))<|aE J<|bo h fun t1 q_t1 h=>dD J J (fun hg=>bh au J J) ?_
  obtain⟨r3,h1t1,h0t1⟩:=og q_t1
  have q_r3g:=fun hb=>(h1t1 hb).1
  refine dD J J (fun hg=>ap Ho (yT _ (q_r3g hg)) ⟨(bm J hg),aL⟩)<|dD J J (fun hg=>cx (bm J hg))<|zo J (eO (ht J) (fun hb=>(bm J (qo hb))) (fun hb=>(h1t1 hb).2) h0t1)<|aE J<|dD J J (fun hg=>bX cz br J J)<|dD J J (fun hg=>bj cg J J (bm J hg))<|dD J J (fun hg=>c9 (bm J hg) hI)<|dD J J (fun hg=>bJ (bm J hg))<|cG J J J J (fun hg=>bX cz br J J)<|cG J J J J (fun hg=>bj cg J J (bm J hg))<|cG J J J J (fun hg=>c9 (bm J hg) hI)<|dD J J (fun hg=>jo (bm J hg) (fun hb=>(bm J (qD hg hb))))<|dD J J (fun hg=>bJ (bm J hg))<|cG J J J J (fun hg=>bX cz br J J)<|cG J J J J (fun hg=>bj cg J J (bm J hg))<|cG J J J J (fun hg=>bX cz br J J)<|cG J J J J (fun hg=>bj cg J J (bm J hg))<|cG J J J J (fun hg=>c9 (bm J hg) (bm J hg))<|dD J J (fun hg=>jo (bm J hg) (fun hb=>(bm J (qD hg hb))))<|zo J (uo J J)<|bg J<|aq<|ce h J (fun h=>?_) (fun h=>?_)
  ·refine av<|zo J (bW)<|aq<|aj ?_;refine aB (ae ?_);cases so h;exact aH J J
  ·refine bA<|aw<|ax<|av<|zo rfl (bW)<|aq<|aj ?_;cases so h;exact aH J J

theorem OJ(a1:ac)(b:ac){R:Int}(h:nD a1 b=some R):aR aU 349 [tD af a1,tD af b] (bM R):=by
 refine aR.of Tryz.func349 J J J fun w0 S0=>av<|zo J (gi J)<|zo J (gi J)<|zo J (bW)<|aq<|ah<|av<|zo J (bh au J J)<|bo h fun r q_r h=>zo J (ap Ho (yT _ q_r) ⟨(ht J),aL⟩)<|zo J (cx (ht J))<|aE J<|bo h fun t q_t h=>dD J J (fun hg=>bh au J J) ?_
 obtain⟨r1,h1t,h0t⟩:=og q_t
 have q_r1g:=fun hb=>(h1t hb).1
 refine dD J J (fun hg=>ap Ho (yT _ (q_r1g hg)) ⟨(bm J hg),aL⟩)<|dD J J (fun hg=>cx (bm J hg))<|zo J (eO (ht J) (fun hb=>(bm J (qo hb))) (fun hb=>(h1t hb).2) h0t)<|aq<|ce h J (fun h=>?_) (fun h=>?_)
 ·refine av<|zo J (bW)<|aq<|aj<|ae ?_;cases so h;exact aH J J
 ·refine df<|ah<|av<|zo J (bX cz br J J)<|zo J (bh cg J J)<|zo J (bX cz br J J)<|zo J (bh cg J J)<|zo J (c9 (ht J) (ht J))<|aq<|ce h J (fun h=>?_) (fun h=>?_)
  ·refine ah<|av<|zo J (bX cz br J J)<|zo J (bh cg J J)<|zo J (bX cz br J J)<|zo J (bh cg J J)<|zo J (fY J J)<|aq<|ce h J (fun h=>?_) (fun h=>?_)
   ·refine av<|zo J (bW)<|aq<|aj ?_;refine ae (ae ?_);cases so h;exact aH J J
   ·refine df<|av<|zo J (bW)<|aq<|aj<|ae ?_;cases so h;exact aH J J
  ·refine df<|ah<|av<|zo J (bX eE bY J J)<|zo J (bh uq J J)<|zo J (bX eE bY J J)<|zo J (bh uq J J)<|zo J (c9 (ht J) (ht J))<|aq<|ce h J (fun h=>?_) (fun h=>?_)
   ·refine ah<|av<|zo J (bX eE bY J J)<|zo J (bh uq J J)<|zo J (bX eE bY J J)<|zo J (bh uq J J)<|zo J (fY J J)<|aq<|ce h J (fun h=>?_) (fun h=>?_)
    ·refine av<|zo J (bW)<|aq<|aj ?_;refine ae (ae ?_);cases so h;exact aH J J
    ·refine df<|av<|zo J (bW)<|aq<|aj<|ae ?_;cases so h;exact aH J J
   ·refine df<|ah<|av<|zo J (bW)<|aq<|aC<|bQ ?_;refine ba (D4 (Z:=fun n i=>kI a1 b n i=some R) (Of:=fun i=>[]) (Gf:=fun i=>[(2,bN af a1),(3,bN af b),(5,bM i)]) (fun i h=>nn h) (fun n ih i h=>?_) ir (0:Int) h) (bD J);refine aG<|ah<|av<|aE J<|zo J (bX jG dy J J)<|zo J (bh B6 J J)<|zo J (rE v7 (ht J))<|zo J (fY J J)<|aE J<|co J J (fun hg=>cX J)<|co J J (fun hg=>bX jG dy J J)<|co J J (fun hg=>bj B6 J J (bm J hg))<|co J J (fun hg=>rE v7 (bm J hg))<|co J J (fun hg=>dJ (bm J hg) (bm J hg))<|zo J (pH J J)<|aq<|ce h J (fun h=>?_) (fun h=>?_)
    ·refine df<|ah<|aC<|ah<|bo h fun b1 q_b1 h=>bo h fun b2 q_b2 h=>?_
     refine cD (ts:=[_,_,_,_,_,_,_,_,_]) mixed J J
      ⟨dB 2 J J J (bX jG dy J J),
      ⟨bT 48 0 J J J (bh B6 J J),
      ⟨dB 5 J J J (cX J),
      ⟨cK 49 1 50 2 J J J J (yL v7 (ht J) (ht J) q_b1),
      ⟨dB 3 J J J (bX jG dy J J),
      ⟨bT 52 4 J J J (bh B6 J J),
      ⟨dB 5 J J J (cX J),
      ⟨cK 53 5 54 6 J J J J (yL v7 (ht J) (ht J) q_b2),
      ⟨cK 51 3 55 7 J J J J (c9 (ht J) (ht J)),
      aL⟩⟩⟩⟩⟩⟩⟩⟩⟩ ?_
     refine ax<|ce h rfl (fun h=>?_) (fun h=>?_)
     ·refine ah<|ah<|bo h fun b3 q_b3 h=>bo h fun b4 q_b4 h=>?_
      refine cD (ts:=[_,_,_,_,_,_,_,_,_]) mixed J J
       ⟨dB 2 J J J (bX jG dy J J),
       ⟨bT 57 0 J J J (bh B6 J J),
       ⟨dB 5 J J J (cX J),
       ⟨cK 58 1 59 2 J J J J (yL v7 (ht J) (ht J) q_b3),
       ⟨dB 3 J J J (bX jG dy J J),
       ⟨bT 61 4 J J J (bh B6 J J),
       ⟨dB 5 J J J (cX J),
       ⟨cK 62 5 63 6 J J J J (yL v7 (ht J) (ht J) q_b4),
       ⟨cK 60 3 64 7 J J J J (fY J J),
       aL⟩⟩⟩⟩⟩⟩⟩⟩⟩ ?_
      refine ax<|ce h rfl (fun h=>?_) (fun h=>?_)
      ·refine av<|zo J (bW)<|aq<|aj ?_;refine ae (aB (ae (ae (aB (ae ?_)))));cases so h;exact aH J J
      ·refine df<|av<|zo J (bW)<|aq<|aj ?_;refine aB (ae (ae (aB (ae ?_))));cases so h;exact aH J J
     ·refine bA<|aw<|ax<|aA<|aE rfl<|zo rfl (fV (ht rfl) hI)<|bg rfl<|aQ ?_;exact bn (ba (ih (IntKind.i64.wrap (i+(1:Int))) h) (bD J))
    ·refine bG ?_;refine ak (ak (aV ?_));refine ax<|ah<|av<|zo rfl (bX jG dy rfl rfl)<|zo rfl (bh B6 rfl rfl)<|zo rfl (rE v7 (ht rfl))<|zo rfl (bX jG dy rfl rfl)<|zo rfl (bh B6 rfl rfl)<|zo rfl (rE v7 (ht rfl))<|zo rfl (c9 (ht rfl) (ht rfl))<|aq<|ce h rfl (fun h=>?_) (fun h=>?_)
     ·refine ah<|av<|zo J (bX jG dy J J)<|zo J (bh B6 J J)<|zo J (rE v7 (ht J))<|zo J (bX jG dy J J)<|zo J (bh B6 J J)<|zo J (rE v7 (ht J))<|zo J (fY J J)<|aq<|ce h J (fun h=>?_) (fun h=>?_)
      ·refine av<|zo J (bW)<|aq<|aj ?_;refine ae (ae ?_);cases so h;exact aH J J
      ·refine df<|av<|zo J (bW)<|aq<|aj<|ae ?_;cases so h;exact aH J J
     ·refine df<|av<|zo J (bW)<|aq<|aj ?_;cases so h;exact aH J J

end Go.Proofs.YtfhhakidodmdfaaGreatDoor

