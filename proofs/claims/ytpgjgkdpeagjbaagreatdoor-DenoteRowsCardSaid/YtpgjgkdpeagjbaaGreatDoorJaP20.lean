/- eJ of this claim: P20. -/
import Derived.Test.YtpgjgkdpeagjbaaGreatDoorJaT
import Derived.Test.YtpgjgkdpeagjbaaGreatDoorJaP19
set_option linter.all false
namespace Go.Proofs.YtpgjgkdpeagjbaaGreatDoor
open Go
set_option maxRecDepth 100000

def R2 l{R}(h:qo l=some R):fR aU 67 [cr (cu) l] false cu 54 R:=by
 refine fR.of Tryz.func67 J J J fun w0 S0=>Z<|bQ false cu 54<|T (bp qa)<|bB<|Z<|bQ false cu 54<|T (bp qa)<|bB<|ax J<|bS h aaQ (Sz _) (bj J) fun r h=>aC J<|aE ?_;refine bh<|bB<|am<|aZ (k:=4) J fun hN=>bA<|fh<|mI ?_;refine aD (iR (aF:=fun ls i out l1 c=>(r.drop i=ls)/\jS r ls i out=some R) (Of:=fun _ i out l1 c=>[ff cu 54 l1 c out]) (Gf:=fun _ i out l1 c=>[(3,my l1 c out),(4,cr (cu) r),(5,bD (i:Int))]) (fun i out l1 c h=>?_) (fun e tl ih i out l1 c h=>?_) r 0 yN none 0 ⟨J,h⟩) (bf J)
 ·obtain⟨V,h⟩:=h
  exact pW eK V J<|ap<|ax J<|aM J<|so h▸fY J J
 ·obtain⟨V,h⟩:=h
  refine pV eK V J<|aA<|am<|aA<|ci h fun t q_t h=>?_
  obtain⟨e1,h1t,h0t⟩:=og q_t
  have q_e1g:=fun M=>(h1t M).1
  obtain⟨r1,h1t⟩:=RI (fun M=>(h1t M).2)
  have q_r1g:=fun M=>(h1t M).1
  refine iQ (ts:=[_,_,_,_,_,_,_,_,_,_,_,_,_,_,_]) mixed J J
   ⟨dc J J,
   ⟨cT 14 0 J J (Uy J),
   ⟨cT 15 1 J J (gL J),
   ⟨jF 4 16 2 J J J (gV J J J J (fun H=>gL J)),
   ⟨jF 5 16 2 J J J (gV J J J J (fun H=>gL J)),
   ⟨fq 18 4 16 2 J J J (gV J J J J (fun H=>dX (bG J H) hI)),
   ⟨lZ 17 3 19 5 16 2 J J J J (gV J J J J (fun H=>bm eK cP J (bG J H) (bG J H) (q_e1g H))),
   ⟨fq 20 6 16 2 J J J (gV J J J J (fun H=>cJ cP J J (bG J H))),
   ⟨jF 4 16 2 J J J (gV J J J J (fun H=>gL J)),
   ⟨jF 5 16 2 J J J (gV J J J J (fun H=>gL J)),
   ⟨lZ 22 8 23 9 16 2 J J J J (gV J J J J (fun H=>bm eK cP J (bG J H) (bG J H) (cD V))),
   ⟨fq 24 10 16 2 J J J (gV J J J J (fun H=>cJ cP J J (bG J H))),
   ⟨lZ 21 7 25 11 16 2 J J J J (gV J J J J (fun H=>bo Wi (Is _ _ (q_r1g H)) ⟨(bG J H),(bG J H),O⟩)),
   ⟨fq 26 12 16 2 J J J (gV J J J J (fun H=>d6 (bG J H) hI)),
   ⟨cM 16 2 27 13 J J J (eC (Y J) (fun M=>(bG J (pQ M))) (fun M=>(h1t M).2) h0t),
   O⟩⟩⟩⟩⟩⟩⟩⟩⟩⟩⟩⟩⟩⟩⟩ ?_
  refine ap<|gp h J (fun h=>?_) (fun h=>?_)
  ·refine au<|Q J<|Q J<|Q J<|cW eK cP J (cD V)<|T (aI (r:=cu) (ys:=[e]) (xs:=[.tmp 33]) eK cP J J J J J ⟨(Y J),O⟩)<|ci h fun out1 q_out1 h=>bW cP J J J J eK J J (Y J) (Y J) q_out1 fun l2 c1=>dC J<|aY<|lH V hN J ?_;exact aR (aD (ih (i+1) out1 l2 c1 ⟨cH V,h⟩) (bf J))
  ·refine bc<|lH V hN J ?_;exact aR (aD (ih (i+1) out l1 c ⟨cH V,h⟩) (bf J))
def OY r columns{R}(h:tK r columns=some R):fR aU 172 [cr (ae) r,kq columns] false ae 57 R:=by
 refine fR.of Tryz.func172 J J J fun w0 S0=>Z<|bQ false ae 57<|T (bp qa)<|bB<|Z<|bQ false ae 57<|T (bp qa)<|bB<|aE<|bh<|bB<|am<|aZ (k:=1) J fun hN=>bA<|fh<|mI ?_;refine aD (iR (aF:=fun ls i out l c=>(columns.drop i=ls)/\ri r ls out=some R) (Of:=fun _ i out l c=>[ff ae 57 l c out]) (Gf:=fun _ i out l c=>[(0,cr (ae) r),(1,kq columns),(5,my l c out),(6,bD (i:Int))]) (fun i out l c h=>?_) (fun e tl ih i out l c h=>?_) columns 0 EH none 0 ⟨J,h⟩) (bf J)
 ·obtain⟨V,h⟩:=h
  exact pW fz V J<|ap<|ax J<|aM J<|so h▸fY J J
 ·obtain⟨V,h⟩:=h
  refine pV fz V J<|aA<|am<|au<|Q J<|Q J<|Q J<|Q J<|cW fz cj J (cD V)<|ci h fun e1 q_e1 h=>Dt nD an J q_e1 ?_;refine bn an J<|T (aI (r:=ae) (ys:=[e1]) (xs:=[.tmp 20]) nD an J J J J J ⟨(Y J),O⟩)<|ci h fun out1 q_out1 h=>bW an J J J J nD J J (Y J) (Y J) q_out1 fun l1 c1=>dC J<|aY<|lH V hN J ?_;exact aR (aD (ih (i+1) out1 l1 c1 ⟨cH V,h⟩) (bf J))
def Y0 r columns{R}(h:tK r columns=some R):bY aU 172 [cr (ae) r,kq columns] (cr (ae) R):=(OY _ _ h).spec

def VW l columns{R}(h:vz l columns=some R):fR aU 114 [cr (cu) l,kq columns] false dF 97 R:=by
 refine fR.of Tryz.func114 J J J fun w0 S0=>Z<|bQ false dF 97<|T (bp qa)<|bB<|Z<|bQ false cu 54<|T (bp qa)<|bB<|aE<|bh<|bB<|am<|aZ (k:=0) J fun hN=>bA<|fh<|mI ?_;refine aD (iR (aF:=fun ls i keys l1 c=>(l.drop i=ls)/\mN l columns ls keys=some R) (Of:=fun _ i keys l1 c=>[ff cu 54 l1 c keys]) (Gf:=fun _ i keys l1 c=>[(0,cr (cu) l),(1,kq columns),(5,my l1 c keys),(6,bD (i:Int))]) (fun i keys l1 c h=>?_) (fun e tl ih i keys l1 c h=>?_) l 0 yN none 0 ⟨J,h⟩) (bf J)
 ·obtain⟨V,h⟩:=h
  refine pW eK V J<|ap<|ax J<|gm<|dn 5 J<|dn 26 J<|lI h aea (R2 _) ⟨(km (Y J)),O⟩ fun r h l2 c1=>?_;refine aC J<|Z<|bQ false dF 97<|T (bp qa)<|bB<|aE<|bh<|bB<|am<|o7 (.tail _ (.head _)) fun hN1=>bA<|mR<|mI<|fh ?_;refine aD (iR (aF:=fun ls1 i1 out l3 c2=>(r.drop i1=ls1)/\lA l columns ls1 out=some R) (Of:=fun _ i1 out l3 c2=>[ff cu 54 l2 c1 r,ff dF 97 l3 c2 out]) (Gf:=fun _ i1 out l3 c2=>[(0,cr (cu) l),(1,kq columns),(5,my l2 c1 r),(7,my l3 c2 out),(8,bD (i1:Int))]) (fun i1 out l3 c2 h=>?_) (fun e1 tl1 ih1 i1 out l3 c2 h=>?_) r 0 ([]:List eg) none 0 ⟨J,h⟩) (bf J)
  ·obtain⟨hx1,h⟩:=h
   exact cU<|aE<|Q J<|Q J<|T (fO eK (.head _) (Y J))<|kw J<|bB<|pr (Y J) (KG hx1)<|d7<|aH<|aH<|cF<|ap<|ax J<|aM J<|bK<|so h▸fY J J
  ·obtain⟨hx1,h⟩:=h
   refine cU<|aE<|Q J<|Q J<|T (fO eK (.head _) (Y J))<|kw J<|bB<|pq (Y J) (Iy hx1)<|dZ<|aA<|am<|Z<|bQ false cu 54<|T (bp qa)<|bB<|aE ?_;refine bh<|bB<|am<|aZ (k:=0) J fun hN2=>bA<|mR<|mR ?_;refine aD (iR (aF:=fun ls2 i2 rows l4 c3=>(l.drop i2=ls2)/\lz columns (lA l columns tl1) e1 out ls2 rows=some R) (Of:=fun _ i2 rows l4 c3=>[ff cu 54 l2 c1 r,ff dF 97 l3 c2 out,ff cu 54 l4 c3 rows]) (Gf:=fun _ i2 rows l4 c3=>[(0,cr (cu) l),(1,kq columns),(5,my l2 c1 r),(7,my l3 c2 out),(8,bD (i1:Int)),(9,my l4 c3 rows),(10,bD (i2:Int))]) (fun i2 rows l4 c3 h=>?_) (fun e2 tl2 ih2 i2 rows l4 c3 h=>?_) l 0 yN none 0 ⟨J,h⟩) (bf J)
   ·obtain⟨hx2,h⟩:=h
    refine pW eK hx2 J<|ap<|Ur<|Us<|WU 9 J<|ci h fun r1 q_r1 h=>?_
    refine BN 9 (ts:=[my l3 c2 out,my l2 c1 r,bD (i1:Int),tV (sa l2 ((i1:Int).toNat*1+0)),cr (ae) e1,tO cu l4 c3 rows,cr (cu) r1,tD dF (⟨e1,r1⟩:eg),cr (dF) ([(⟨e1,r1⟩:eg)])]) mixed J J J
     ⟨dc J J,
     ⟨dc J J,
     ⟨dc J J,
     ⟨cM 60 1 61 2 J J J (cn eK cP (.tail _ (.head _)) (Y J) (Y J) (cD hx1)),
     ⟨cT 62 3 J J (eE (r:=cu) (i:=(i1:Int)) (foff:=0) cP J J bz J (.tail _ (.head _)) (cD hx1) (Y J)),
     ⟨dc J J,
     ⟨cT 64 5 J J (bo aaQ (Sz _ q_r1) ⟨(km (Y J)),O⟩),
     ⟨cM 63 4 65 6 J J J (bM (y:=(⟨e1,r1⟩:eg)) BO XY Aj (⟨_,_,_,_,_,J,Hn,J,(Y J),⟨_,_,_,_,_,J,Hm,J,(Y J),J⟩⟩)),
     ⟨cT 66 7 J J (aI (r:=dF) (ys:=[(⟨e1,r1⟩:eg)]) (xs:=[.tmp 66]) Cu BO J J J J J ⟨(Y J),O⟩),
     O⟩⟩⟩⟩⟩⟩⟩⟩⟩ ?_
    refine gk<|ci h fun out1 q_out1 h=>bW BO J J J J Cu J J (Y J) (Y J) q_out1 fun l5 c4=>dC J<|aY<|lH hx1 hN1 J<|bK<|aG<|bK ?_;exact aR (aD (ih1 (i1+1) out1 l5 c4 ⟨cH hx1,h⟩) (bf J))
   ·obtain⟨hx2,h⟩:=h
    refine pV eK hx2 J<|aA<|am<|aA<|ci h fun r2 q_r2 h=>ci h fun r3 q_r3 h=>?_
    refine iQ (ts:=[_,_,_,_,_,_,_,_,_,_,_,_]) mixed J J
     ⟨dc J J,
     ⟨dc J J,
     ⟨cM 40 0 41 1 J J J (zW eK cP J J J (cD hx2)),
     ⟨dh 2 cP J J,
     ⟨dc J J,
     ⟨cM 43 3 44 4 J J J (bo aaH (Y0 _ _ q_r2) ⟨(Y J),(Y J),O⟩),
     ⟨dc J J,
     ⟨dc J J,
     ⟨cM 46 6 47 7 J J J (cn eK cP (.head _) (Y J) (Y J) (cD hx1)),
     ⟨cT 48 8 J J (eE (r:=cu) (i:=(i1:Int)) (foff:=0) cP J J bz J (.head _) (cD hx1) (Y J)),
     ⟨cM 45 5 49 9 J J J (bo Wi (Is _ _ q_r3) ⟨(Y J),(Y J),O⟩),
     ⟨cT 50 10 J J (Uy J),
     O⟩⟩⟩⟩⟩⟩⟩⟩⟩⟩⟩⟩ ?_
    refine ap<|gp h J (fun h=>?_) (fun h=>?_)
    ·refine au<|Q J<|Q J<|Q J<|cW eK cP J (cD hx2)<|T (aI (r:=cu) (ys:=[e2]) (xs:=[.tmp 56]) eK cP J J J J J ⟨(Y J),O⟩)<|gk<|ci h fun rows1 q_rows1 h=>bW cP J J J J eK J J (Y J) (Y J) q_rows1 fun l6 c5=>dC J<|aY<|lH hx2 hN2 J<|aP<|aP ?_;exact aR (aD (ih2 (i2+1) rows1 l6 c5 ⟨cH hx2,h⟩) (bf J))
    ·refine bc<|lH hx2 hN2 J ?_;exact aR (aD (ih2 (i2+1) rows l4 c3 ⟨cH hx2,h⟩) (bf J))
 ·obtain⟨V,h⟩:=h
  refine pV eK V J<|aA<|am<|au<|Q J<|Q J<|Q J<|cW eK cP J (cD V)<|Q J<|lI h aaH (OY _ _) (bj J) fun r4 h l7 c6=>?_;refine gm<|dn 23 J<|T (aI (r:=cu) (ys:=[r4]) (xs:=[.tmp 23]) eK cP J J J J J ⟨(km (Y J)),O⟩)<|bu<|ci h fun keys1 q_keys1 h=>bW cP J J J J eK J J (Y J) (Y J) q_keys1 fun l8 c7=>dC J<|aY<|lH V hN J<|bK<|aG ?_;exact aR (aD (ih (i+1) keys1 l8 c7 ⟨cH V,h⟩) (bf J))
def Sj v{R}(h:sr v=some R):bY aU 235 [tD ae v] (gM R):=by
 refine co Tryz.func235 J<|Z<|bO J<|ca<|bB<|Z<|bn an J<|bS h Er (ta _) (bj J) fun r h=>Q J<|aw J (cZ cY bC J J)<|aw J (cN cj J J)<|aw J (fV J)<|aw J (mJ J)<|dB J J J J (fun H=>ic cY bC J J)<|dB J J J J (fun H=>cJ cj J J (bG J H))<|dB J J J J (fun H=>iK (bG J H) hI)<|aw J (fun H=>nW (bG J H) (fun M=>(bG J (nC H (pQ M)))))<|dv J<|dC J<|aY ?_;exact ap<|fD<|so h▸av J J

def Si a1{R}(h:yd a1=some R):bY aU 237 [tD dE a1] (tT [tD ae R.1,bD R.2]):=by
 refine co Tryz.func237 J<|Z<|bO J<|aQ an aL J fun b=>bh<|bB<|Z<|bn hM J<|bS h aar (R9 _) (bj J) fun r h=>Q J<|bv J J<|bv J J<|bv J J<|dC J<|dC J<|aC J<|aA<|aA ?_;refine au<|Q J<|T (dY (Y J))<|bE h J (fun h=>?_) (fun h=>?_)
 ·exact Z<|T (bM an jg aL J)<|be an ah J<|cd<|af<|aB 2 J<|so h▸bq J J ⟨aT an J J J,aN J,O⟩
 ·exact dZ<|ax J<|Q J<|T (bM (y:=(⟨(4:Int),r.1,r.2.1,[]⟩:ac)) an jg aL (⟨_,_,_,_,_,J,lu,J,hI,⟨_,_,_,_,_,J,nf,J,(Y J),⟨_,_,_,_,_,J,yU,J,(Y J),J⟩⟩⟩))<|be an ah J<|cd<|aB 2 J<|so h▸bq J J ⟨aT an J J J,aN J,O⟩

def YZ s v{R}(h:tN s v=some R):bY aU 174 [tD ae s,tD ae v] (tT [tD ae R.1,bD R.2]):=by
 refine co Tryz.func174 J<|Z<|bO J<|bO J<|aQ an aL J fun b=>bh<|bB<|aA<|am<|Z<|bn an J<|bS h Er (ta _) (bj J) fun r h=>T (dY (Y J))<|Q J<|ci h fun t q_t h=>aO J (fun H=>nE an J J) ?_
 obtain⟨r1,h1t,h0t⟩:=og q_t
 have q_r1g:=fun M=>(h1t M).1
 refine aO J (fun H=>bo Er (ta _ (q_r1g H)) ⟨(bG J H),O⟩)<|aO J (nI J)<|T (eC (Y J) (fun M=>(bG J (pQ M))) (fun M=>(h1t M).2) h0t)<|aC J<|gp h J (fun h=>?_) (fun h=>?_)
 ·exact Z<|T (bM an jg aL J)<|be an ah J<|cd<|bT<|aB 4 J<|so h▸bq J J ⟨aT an J J J,aN J,O⟩
 ·refine Z<|bn an J<|bS h aaA (Sj _) (bj J) fun r2 h=>T (dY (Y J))<|Q J<|ci h fun t1 q_t1 h=>aO J (fun H=>nE an J J) ?_
  obtain⟨r3,h1t1,h0t1⟩:=og q_t1
  have q_r3g:=fun M=>(h1t1 M).1
  refine aO J (fun H=>bo Wm (Mv _ (q_r3g H)) ⟨(bG J H),O⟩)<|aO J (nI J)<|T (eC (Y J) (fun M=>(bG J (pQ M))) (fun M=>(h1t1 M).2) h0t1)<|aC J<|gp h J (fun h=>?_) (fun h=>?_)
  ·exact Z<|T (bM an jg aL J)<|be an ah J<|cd<|bT<|aB 4 J<|so h▸bq J J ⟨aT an J J J,aN J,O⟩
  ·refine Z<|bg cY bC cj J<|bP J<|aC J<|gp h J (fun h=>?_) (fun h=>?_)
   ·exact Z<|bn an J<|be an ah J<|cd<|bT<|aB 4 J<|so h▸bq J J ⟨aT an J J J,aN J,O⟩
   ·refine Z<|bg cY bC cj J<|bP J<|aC J<|gp h J (fun h=>?_) (fun h=>?_)
    ·exact Z<|bg fC cE wd J<|bS h Co (uw _) (bj J) fun r4 h=>bS h aaz (Si _) (bj J) fun r5 h=>bv J J<|bv J J<|be an ah J<|aM J<|bT<|aB 4 J<|so h▸bq J J ⟨aT an J J J,aN J,O⟩
    ·refine bc<|ay<|ap<|aA<|ci h fun r6 q_r6 h=>ci h fun r7 q_r7 h=>ci h fun r8 q_r8 h=>ci h fun r9 q_r9 h=>?_
     refine BN 12 (ts:=[bF cI s.N,bD s.N,bF o8 s.U,tD o8 s.U,tD dE r6,bF cI v.N,bD v.N,tD dE r7,tD dE r8,tT [tD ae r9.1,bD r9.2],tD ae r9.1,bD r9.2]) mixed J J J
      ⟨jH 2 J J (ic fC cE J J),
      ⟨dh 0 wd J J,
      ⟨jH 2 J J (ic rY jo J J),
      ⟨dh 2 hU J J,
      ⟨cM 42 1 44 3 J J J (bo SR (GF _ _ q_r6) ⟨(Y J),(Y J),O⟩),
      ⟨jH 3 J J (ic fC cE J J),
      ⟨dh 5 wd J J,
      ⟨cT 47 6 J J (bo Co (uw _ q_r7) ⟨(Y J),O⟩),
      ⟨cM 45 4 48 7 J J J (bo Wl (Mu _ _ q_r8) ⟨(Y J),(Y J),O⟩),
      ⟨cT 49 8 J J (bo aaz (Si _ q_r9) ⟨(Y J),O⟩),
      ⟨cT 50 9 J J (vo J J),
      ⟨cT 50 9 J J (vo J J),
      O⟩⟩⟩⟩⟩⟩⟩⟩⟩⟩⟩⟩ ?_
     exact be an ah J<|aM J<|aB 4 J<|so h▸bq J J ⟨aT an J J J,aN J,O⟩

def YY s{R}(h:vQ s=some R):bY aU 175 [tD ae s] (tT [tD ae R.1,bD R.2]):=by
 refine co Tryz.func175 J<|Z<|bO J<|aQ an aL J fun b=>bh<|bB<|aA<|am<|Z<|bn an J<|bS h Er (ta _) (bj J) fun r h=>T (dY (Y J))<|aC J<|gp h J (fun h=>?_) (fun h=>?_)
 ·exact Z<|T (bM an jg aL J)<|be an ah J<|cd<|bT<|aB 2 J<|so h▸bq J J ⟨aT an J J J,aN J,O⟩
 ·refine Z<|bn an J<|bS h aaA (Sj _) (bj J) fun r1 h=>T (dY (Y J))<|aC J<|gp h J (fun h=>?_) (fun h=>?_)
  ·exact Z<|T (bM an jg aL J)<|be an ah J<|cd<|bT<|aB 2 J<|so h▸bq J J ⟨aT an J J J,aN J,O⟩
  ·refine Z<|bg cY bC cj J<|bP J<|aC J<|gp h J (fun h=>?_) (fun h=>?_)
   ·exact Z<|bn an J<|be an ah J<|cd<|bT<|aB 2 J<|so h▸bq J J ⟨aT an J J J,aN J,O⟩
   ·refine bc<|ay<|ap<|Z<|bg fC cE wd J<|bg rY jo hU J<|bS h SR (GF _ _) (bj J) fun r2 h=>bS h Pb (D3 _) (bj J) fun r3 h=>Q J<|bv J J<|bv J J<|dC J<|aC J<|aE<|Q J ?_;refine T (dY (Y J))<|bE h J (fun h=>?_) (fun h=>?_)
    ·exact Z<|T (bM an jg aL J)<|be an ah J<|cd<|af<|aB 2 J<|so h▸bq J J ⟨aT an J J J,aN J,O⟩
    ·exact dZ<|ax J<|bS h F5 (xn _) (bj J) fun r4 h=>be an ah J<|cd<|aB 2 J<|so h▸bq J J ⟨aT an J J J,aN J,O⟩

def SA a1 l{R}(h:pe a1 l=some R):bY aU 115 [tD eM a1,cr (cu) l] (tT [tD ae R.1,bD R.2]):=by
 refine co Tryz.func115 J<|Z<|bO J<|aQ an aL J fun b=>bh<|bB<|aE<|bg pR kz cj J<|bP J<|bE h J (fun h=>?_) (fun h=>?_)
 ·exact ax J<|ck eK J<|bS h F5 (xn _) (bj J) fun r h=>be an ah J<|cd<|af<|aB 4 J<|so h▸bq J J ⟨aT an J J J,aN J,O⟩
 ·refine dZ<|Z<|bh<|bh<|bB<|Z<|T (bM an jg aL J)<|T (bM an jg aL J)<|aQ an aL J fun b1=>aQ an aL J fun b2=>bu<|be an ah J<|bu<|be an ah J<|bB<|aE<|bh ?_;refine bB<|am<|aZ (k:=1) J fun hN=>bA<|fh<|mR ?_;refine aD (yB (aF:=fun ls i n fault x sum best=>(l.drop i=ls)/\ft a1 ls n fault x sum best=some R) (Of:=fun _ i n fault x sum best=>[bx ae 57 b x,bx ae 57 b1 sum,bx ae 57 b2 best]) (Gf:=fun _ i n fault x sum best=>[(1,cr (cu) l),(2,bF eM a1),(4,tV (ba b 0)),(6,bD n),(7,bD fault),(8,tV (ba b1 0)),(9,tV (ba b2 0)),(10,bD (i:Int))]) (fun i n fault x sum best h=>?_) (fun e tl ih i n fault x sum best h=>?_) l 0 (0:Int) (0:Int) vn vn vn ⟨J,h⟩) (bf J)
  ·obtain⟨V,h⟩:=h
   refine pW eK V J<|ap<|aE<|Q J<|eN J<|bE h J (fun h=>?_) (fun h=>?_)
   ·exact Z<|T (bM an jg aL J)<|Q J<|be an ah J<|aM J<|af<|aB 4 J<|aG<|aG<|so h▸bq J J ⟨aT an J J J,aN J,O⟩
   ·refine dZ<|aE<|bg pR kz cj J<|bB<|am<|Z<|bP J<|aC J<|gp h J (fun h=>?_) (fun h=>?_)
    ·exact ax J<|bS h F5 (xn _) (bj J) fun r1 h=>be an ah J<|cd<|bT<|aB 4 J<|aG<|aG<|so h▸bq J J ⟨aT an J J J,aN J,O⟩
    ·refine Z<|bP J<|aC J<|gp h J (fun h=>?_) (fun h=>?_)
     ·exact Z<|T (bR an J J bz (.tail _ (.head _)) (Y J))<|bS h ae3 (YY _) (bj J) fun r2 h=>bv J J<|bv J J<|be an ah J<|aM J<|bT<|aB 4 J<|aG<|aG<|so h▸bq J J ⟨aT an J J J,aN J,O⟩
     ·exact bc<|ay<|ap<|Z<|T (bR an J J bz (.tail _ (.tail _ (.head _))) (Y J))<|be an ah J<|cd<|aB 4 J<|aG<|aG<|so h▸bq J J ⟨aT an J J J,aN J,O⟩
  ·obtain⟨V,h⟩:=h
   refine pV eK V J<|aA ?_;refine Ut (aF:=fun n1 fault1 x1 sum1 best1=>ir (ft a1 tl) n1 fault1 x1 sum1 best1=some R) (Of:=fun n1 fault1 x1 sum1 best1=>[bx ae 57 b x1,bx ae 57 b1 sum1,bx ae 57 b2 best1]) (Gf:=fun n1 fault1 x1 sum1 best1=>[(1,cr (cu) l),(2,bF eM a1),(4,tV (ba b 0)),(6,bD n1),(7,bD fault1),(8,tV (ba b1 0)),(9,tV (ba b2 0)),(10,bD (i:Int))]) (fun n1 fault1 x1 sum1 best1 h=>?_) (fun h2=>?_)
   ·skip
    refine ap<|au<|Q J<|T (zin (KF V hN) J)<|dC J<|aY ?_;exact aR (aD (ih (i+1) n1 fault1 x1 sum1 best1 ⟨cH V,h⟩) (bf J))
   ·skip
    refine aA<|ci h fun r3 q_r3 h=>?_
    refine lS 12 [tc (bF cm a1.Arg),tc (tD cm a1.Arg),tc (cr (cu) l),tc (bD (i:Int)),tc (bF cu e),tc (cr (ae) e),tc (tT [tD ae r3.1,bD r3.2]),tc (tT [tD ae r3.1,bD r3.2]),tc (tD ae r3.1),tc (bD r3.2),([10],fun s=>tV (ba ((s.getD 0 sF).h 0).2 0)),tc (Ap)] [false,false,false,false,false,false,false,false,false,false,true,true] [([],fun _=>[bx ae 57 b x,bx ae 57 b1 sum,bx ae 57 b2 best]),([10],fun sg=>[bx ae 57 ((sg 10).h 0).2 vn,bx ae 57 b x,bx ae 57 b1 sum,bx ae 57 b2 best]),([10,11],fun sg=>[bx ae 57 ((sg 10).h 0).2 r3.1,bx ae 57 b x,bx ae 57 b1 sum,bx ae 57 b2 best])] (fun _=>J) mixed J J J J
     ⟨⟨[⟨2,fun _=>bF eM a1,none⟩],_,[[],[10]],J,⟨(fun _=>J),O⟩,J,J,J,J,J,⟨fun sg=>ai J (ic xH ro J J),fun sg=>ai J (ic xH ro J J),O⟩⟩,
     ⟨⟨[⟨28,fun _=>bF cm a1.Arg,some 0⟩],_,[[],[10]],J,⟨(fun _=>J),O⟩,J,J,J,J,J,⟨fun sg=>ai J (nE jk J J),fun sg=>ai J (nE jk J J),O⟩⟩,
     ⟨⟨[⟨1,fun _=>tD ei l,none⟩],_,[[],[10]],J,⟨(fun _=>J),O⟩,J,J,J,J,J,⟨fun sg=>ai J (gL J),fun sg=>ai J (gL J),O⟩⟩,
     ⟨⟨[⟨10,fun _=>tD cI (i:Int),none⟩],_,[[],[10]],J,⟨(fun _=>J),O⟩,J,J,J,J,J,⟨fun sg=>ai J (gL J),fun sg=>ai J (gL J),O⟩⟩,
     ⟨⟨[⟨30,fun _=>tD ei l,some 2⟩,⟨31,fun _=>tD cI (i:Int),some 3⟩],_,[[],[10]],J,⟨(fun _=>J),(fun _=>J),O⟩,J,J,J,J,J,⟨fun sg=>ai J (zW eK cP J J J (cD V)),fun sg=>ai J (zW eK cP J J J (cD V)),O⟩⟩,
     ⟨⟨[⟨32,fun _=>bF cu e,some 4⟩],_,[[],[10]],J,⟨(fun _=>J),O⟩,J,J,J,J,J,⟨fun sg=>ai J (nE cP J J),fun sg=>ai J (nE cP J J),O⟩⟩,
     ⟨⟨[⟨29,fun _=>tD cm a1.Arg,some 1⟩,⟨33,fun _=>tD cu e,some 5⟩],_,[[],[10]],J,⟨(fun _=>J),(fun _=>J),O⟩,J,J,J,J,J,⟨fun sg=>ai J (bo IJ (zp _ _ q_r3) ⟨(Y J),(Y J),O⟩),fun sg=>ai J (bo IJ (zp _ _ q_r3) ⟨(Y J),(Y J),O⟩),O⟩⟩,
     ⟨⟨[⟨34,fun _=>tT [tD ae r3.1,tD cI r3.2],some 6⟩],_,[[],[10]],J,⟨(fun _=>J),O⟩,J,J,J,J,J,⟨fun sg=>ai J (gL J),fun sg=>ai J (gL J),O⟩⟩,
     ⟨⟨[⟨27,fun _=>tT [tD ae r3.1,tD cI r3.2],some 7⟩],_,[[],[10]],J,⟨(fun _=>J),O⟩,J,J,J,J,J,⟨fun sg=>ai J (vo J J),fun sg=>ai J (vo J J),O⟩⟩,
     ⟨⟨[⟨27,fun _=>tT [tD ae r3.1,tD cI r3.2],some 7⟩],_,[[],[10],[10,11]],J,⟨(fun _=>J),O⟩,J,J,J,J,J,⟨fun sg=>ai J (vo J J),fun sg=>ai J (vo J J),fun sg=>ai J (vo J J),O⟩⟩,
     ⟨⟨[],_,[([],[10])],J,O,J,J,J,J,J,⟨fun sg=>dS J (sx an aL),O⟩⟩,
     ⟨⟨[⟨11,fun sg=>tV (ba ((sg 10).h 0).2 0),some 10⟩,⟨35,fun _=>tD ae r3.1,some 8⟩],_,[([10],[10,11])],J,⟨(fun _=>J),(fun _=>J),O⟩,J,J,J,J,J,⟨fun sg=>dS J (lC an J (oE ah) J (Y J) (Y J)),O⟩⟩,
     O⟩⟩⟩⟩⟩⟩⟩⟩⟩⟩⟩⟩ (fun sg=>?_)
    refine(show RG _ _ _ _ [_,_,_,_] _ from ?_);refine aV 11 J<|aC J<|aE<|Q J<|bP J<|bE h J (fun h=>?_) (fun h=>?_)
    ·refine ax J<|aC J<|d7<|aH<|cF ?_;exact ce (h2 n r3.2 x sum best h) (bf J)
    ·refine dZ<|aE<|Q J<|eN J<|Q J<|aO J (cZ pR kz J J)<|aO J (cN cj J J)<|aO J (fV J)<|aO J (mJ J)<|cB J J J J (fun H=>ic cY bC J J)<|cB J J J J (fun H=>cJ cj J J (bG J H))<|cB J J J J (fun H=>d6 (bG J H) hI)<|aO J (fun H=>gG (bG J H) (fun M=>(bG J (nC H M))))<|aO J (mJ J)<|cB J J J J (fun H=>ic cY bC J J)<|cB J J J J (fun H=>cJ cj J J (bG J H))<|cB J J J J (fun H=>d6 (bG J H) hI)<|aO J (fun H=>gG (bG J H) (fun M=>(bG J (nC H M))))<|fj J<|bB ?_;refine gp h J (fun h=>?_) (fun h=>?_)
     ·exact Z<|T (bM an jg aL J)<|be an ah J<|cd<|af<|bT<|af<|bT<|aB 4 J<|aG<|aG<|so h▸bq J J ⟨aT an J J J,aN J,O⟩
     ·refine dZ<|aE<|bg cY bC cj J<|bP J<|bE h J (fun h=>?_) (fun h=>?_)
      ·refine d7<|aH<|cF ?_;exact ce (h2 n fault x sum best h) (bf J)
      ·refine dZ<|ax J<|T (eG (Y J) hI)<|aC J ?_;refine fi (aF:=fun sum2=>mC a1 (ft a1 tl) n fault x best r3 sum2=some R) (Of:=fun sum2=>[bx ae 57 b x,bx ae 57 b1 sum2,bx ae 57 b2 best]) (Gf:=fun sum2=>[(1,cr (cu) l),(2,bF eM a1),(4,tV (ba b 0)),(6,bD (IntKind.i64.wrap (n+(1:Int)))),(7,bD fault),(8,tV (ba b1 0)),(9,tV (ba b2 0)),(10,bD (i:Int)),(11,bF ae r3.1)]) (fun sum2 h=>?_) (fun K1=>?_)
       ·skip
        refine ax J<|bP J<|Q J<|ci h fun t q_t h=>aO J (cZ pR kz J J)<|aO J (cN cj J J)<|aO J (fV J)<|aO J (mJ J) ?_
        obtain⟨t1,h1t,h0t⟩:=og q_t
        have q_t1g:=fun M=>(h1t M).1
        refine cB J J J J (fun H=>nE an J J)<|cB J J J J (fun H=>bR an J J bz (.tail _ (.tail _ (.head _))) (Y J)) ?_
        obtain⟨r4,h1t1,h0t1⟩:=og3 q_t1g
        have q_r4g:=fun M=>(h1t1 M).1
        refine cB J J J J (fun H=>bo ZE (Mp _ _ (q_r4g H)) ⟨(bG J H),(bG J H),O⟩)<|cB J J J J (fun H=>du (bG J H) hI)<|aO J (fun H=>cQ (bG J H) (fun M=>(bG J (nC H M))) (fun M=>(h1t1 (nC H M)).2) (fun M=>h0t1 H M))<|T (eC (Y J) (fun M=>(bG J (pQ M))) (fun M=>(h1t M).2) h0t)<|Q J<|ci h fun t2 q_t2 h=>aO J (cZ pR kz J J)<|aO J (cN cj J J)<|aO J (fV J)<|aO J (mJ J) ?_
        obtain⟨t3,h1t2,h0t2⟩:=og q_t2
        have q_t3g:=fun M=>(h1t2 M).1
        refine cB J J J J (fun H=>nE an J J)<|cB J J J J (fun H=>bR an J J bz (.tail _ (.tail _ (.head _))) (Y J)) ?_
        obtain⟨r5,h1t3,h0t3⟩:=og3 q_t3g
        have q_r5g:=fun M=>(h1t3 M).1
        refine cB J J J J (fun H=>bo ZE (Mp _ _ (q_r5g H)) ⟨(bG J H),(bG J H),O⟩)<|cB J J J J (fun H=>dy (bG J H) hI)<|aO J (fun H=>cQ (bG J H) (fun M=>(bG J (nC H M))) (fun M=>(h1t3 (nC H M)).2) (fun M=>h0t3 H M))<|T (eC (Y J) (fun M=>(bG J (pQ M))) (fun M=>(h1t2 M).2) h0t2)<|bE h J (fun h=>?_) (fun h=>?_)
        ·refine au<|bn an J<|gk<|be an ah J<|aY<|ay<|aP<|aP ?_;exact ce (h2 (IntKind.i64.wrap (n+(1:Int))) fault x sum2 r3.1 h) (bf J)
        ·refine bc<|ay ?_;exact ce (h2 (IntKind.i64.wrap (n+(1:Int))) fault x sum2 best h) (bf J)
       ·skip
        refine Z<|bg pR kz cj J<|bP J<|bE h J (fun h=>?_) (fun h=>?_)
        ·refine au<|T (bR an J J bz (.tail _ (.head _)) (Y J))<|bn an J<|bS h ae4 (YZ _ _) (bj J) fun r6 h=>Q J<|bv J J<|bv J J<|bu<|be an ah J<|aY<|aP<|bK<|aP ?_;exact ce (K1 r6.1 h) (bf J)
        ·refine bc ?_;exact ce (K1 sum h) (bf J)

end Go.Proofs.YtpgjgkdpeagjbaaGreatDoor

