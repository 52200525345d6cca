/- eJ of this claim: P10. -/
import Derived.Test.YtpgjgkdpeagjbaaGreatDoorJaT
import Derived.Test.YtpgjgkdpeagjbaaGreatDoorJaP9
set_option linter.all false
namespace Go.Proofs.YtpgjgkdpeagjbaaGreatDoor
open Go
set_option maxRecDepth 100000

def abQ p cmp{R}(h:gA p cmp=some R):bY aU 89 [cr (ae) p,(fL aU sG BM (fun(x:ac×ac)=>cmp x.1 x.2))] (tD ae R):=by
 refine co Tryz.func89 J<|Z<|aQ an aL J fun b=>bB ?_;refine yF (aF:=iF p cmp=some R) (Of:=[bx ae 57 b vn]) (Gf:=[(0,cr (ae) p),(1,(fL aU sG BM (fun(x:ac×ac)=>cmp x.1 x.2))),(4,tV (ba b 0))]) (fun h=>?_) (fun h2=>?_)
 ·skip
  refine ax J<|ci h fun e q_e h=>T (bm jE an J (Y J) hI q_e)<|bn an J<|aQ an aL J fun b1=>be an ah J<|bB<|aE<|bh<|bB<|am<|aZ (k:=0) J fun hN=>bA<|fh ?_;refine aD (ol (aF:=fun ls i m=>(p.drop i=ls)/\dH cmp ls m=some R) (Of:=fun _ i m=>[bx ae 57 b vn,bx ae 57 b1 m]) (Gf:=fun _ i m=>[(0,cr (ae) p),(1,(fL aU sG BM (fun(x:ac×ac)=>cmp x.1 x.2))),(4,tV (ba b 0)),(5,tV (ba b1 0)),(6,bD (i:Int))]) (fun i m h=>?_) (fun e1 tl ih i m h=>?_) (p.drop (1)) 1 e ⟨J,h⟩) (bf J)
  ·obtain⟨V,h⟩:=h
   refine pW jE V J<|ap<|Z<|T (bR an J J bz (.tail _ (.head _)) (Y J))<|be an ah J<|aV 4 J<|cK ?_;exact aG<|so h▸fT J an J J J
  ·obtain⟨V,h⟩:=h
   refine pV jE V J<|aA<|am<|aA<|ci h fun r q_r h=>?_
   refine iQ (ts:=[_,_,_,_,_,_,_,_]) mixed J J
    ⟨dc J J,
    ⟨dc J J,
    ⟨dc J J,
    ⟨cM 21 1 22 2 J J J (zW jE an J J J (cD V)),
    ⟨dh 3 an J J,
    ⟨jH 5 J J (bR an J J bz (.tail _ (.head _)) (Y J)),
    ⟨JQ 20 0 24 4 25 5 J J J J (jV (args:=sG) (res:=Xd) (f:=(fun(x:ac×ac)=>cmp x.1 x.2)) (x:=((e1,m):ac×ac)) (Y J) q_r ⟨(Y J),(Y J),O⟩),
    ⟨cT 26 6 J J (du (Y J) hI),
    O⟩⟩⟩⟩⟩⟩⟩⟩ ?_
   refine ap<|gp h J (fun h=>?_) (fun h=>?_)
   ·refine au<|Q J<|Q J<|cW jE an J (cD V)<|bu<|be an ah J<|aY<|lH V hN J<|bK ?_;exact aR (aD (ih (i+1) e1 ⟨cH V,h⟩) (bf J))
   ·refine bc<|lH V hN J ?_;exact aR (aD (ih (i+1) m ⟨cH V,h⟩) (bf J))
 ·skip
  refine ax J<|ck jE J<|T (du (Y J) hI)<|bE h J (fun h=>?_) (fun h=>?_)
  ·refine au ?_;exact(nn h).elim
  ·refine bc ?_;exact ce (h2 h) (bf J)

def Sy a1 b{R}(h:sl a1 b=some R):bY aU 144 [cr (ae) a1,cr (ae) b] (bD R):=by
 refine co Tryz.func144 J<|Z<|bh<|bB<|aE<|Q J<|bS h Wx (MF _) (bj J) fun r h=>T (dY (Y J))<|Q J<|ci h fun t q_t h=>aO J (cG J) ?_
 obtain⟨r1,h1t,h0t⟩:=og q_t
 have q_r1g:=fun M=>(h1t M).1
 refine aO J (fun H=>bo Wx (MF _ (q_r1g H)) ⟨(bG J H),O⟩)<|aO J (nI J)<|T (eC (Y J) (fun M=>(bG J (pQ M))) (fun M=>(h1t M).2) h0t)<|bE h J (fun h=>?_) (fun h=>?_)
 ·exact Z<|cd<|af<|so h▸av J J
 ·exact dZ<|ax J<|Q J<|bS h ZD (Mo _ _) (bj J) fun r2 h=>aM J<|so h▸av J J

def QI a1 b{R}(h:jI a1 b=some R):bY aU 90 [tD ae a1,tD ae b] (bD R):=by
 exact co Tryz.func90 J<|Z<|bO J<|bO J<|bh<|bB<|Z<|bn an J<|T (aI (r:=ae) (ys:=[a1]) (xs:=[.tmp 5]) nD an J J J J J ⟨(Y J),O⟩)<|bn an J<|T (aI (r:=ae) (ys:=[b]) (xs:=[.tmp 7]) nD an J J J J J ⟨(Y J),O⟩)<|bS h aaP (Sy _ _) (bj J) fun r h=>aM J<|so h▸av J J

def abP p cmp{R}(h:gB p cmp=some R):bY aU 91 [cr (ae) p,(fL aU sG BM (fun(x:ac×ac)=>cmp x.1 x.2))] (tD ae R):=by
 refine co Tryz.func91 J<|Z<|aQ an aL J fun b=>bB ?_;refine yF (aF:=iG p cmp=some R) (Of:=[bx ae 57 b vn]) (Gf:=[(0,cr (ae) p),(1,(fL aU sG BM (fun(x:ac×ac)=>cmp x.1 x.2))),(4,tV (ba b 0))]) (fun h=>?_) (fun h2=>?_)
 ·skip
  refine ax J<|ci h fun e q_e h=>T (bm jE an J (Y J) hI q_e)<|bn an J<|aQ an aL J fun b1=>be an ah J<|bB<|aE<|bh<|bB<|am<|aZ (k:=0) J fun hN=>bA<|fh ?_;refine aD (ol (aF:=fun ls i m=>(p.drop i=ls)/\dI cmp ls m=some R) (Of:=fun _ i m=>[bx ae 57 b vn,bx ae 57 b1 m]) (Gf:=fun _ i m=>[(0,cr (ae) p),(1,(fL aU sG BM (fun(x:ac×ac)=>cmp x.1 x.2))),(4,tV (ba b 0)),(5,tV (ba b1 0)),(6,bD (i:Int))]) (fun i m h=>?_) (fun e1 tl ih i m h=>?_) (p.drop (1)) 1 e ⟨J,h⟩) (bf J)
  ·obtain⟨V,h⟩:=h
   refine pW jE V J<|ap<|Z<|T (bR an J J bz (.tail _ (.head _)) (Y J))<|be an ah J<|aV 4 J<|cK ?_;exact aG<|so h▸fT J an J J J
  ·obtain⟨V,h⟩:=h
   refine pV jE V J<|aA<|am<|aA<|ci h fun r q_r h=>?_
   refine iQ (ts:=[_,_,_,_,_,_,_,_]) mixed J J
    ⟨dc J J,
    ⟨dc J J,
    ⟨dc J J,
    ⟨cM 21 1 22 2 J J J (zW jE an J J J (cD V)),
    ⟨dh 3 an J J,
    ⟨jH 5 J J (bR an J J bz (.tail _ (.head _)) (Y J)),
    ⟨JQ 20 0 24 4 25 5 J J J J (jV (args:=sG) (res:=Xd) (f:=(fun(x:ac×ac)=>cmp x.1 x.2)) (x:=((e1,m):ac×ac)) (Y J) q_r ⟨(Y J),(Y J),O⟩),
    ⟨cT 26 6 J J (dy (Y J) hI),
    O⟩⟩⟩⟩⟩⟩⟩⟩ ?_
   refine ap<|gp h J (fun h=>?_) (fun h=>?_)
   ·refine au<|Q J<|Q J<|cW jE an J (cD V)<|bu<|be an ah J<|aY<|lH V hN J<|bK ?_;exact aR (aD (ih (i+1) e1 ⟨cH V,h⟩) (bf J))
   ·refine bc<|lH V hN J ?_;exact aR (aD (ih (i+1) m ⟨cH V,h⟩) (bf J))
 ·skip
  refine ax J<|ck jE J<|T (du (Y J) hI)<|bE h J (fun h=>?_) (fun h=>?_)
  ·refine au ?_;exact(nn h).elim
  ·refine bc ?_;exact ce (h2 h) (bf J)

def acb a1 rows{R}(h:oh a1 rows=some R):bY aU 47 [tD eM a1,cr (cu) rows] (tT [tD ae R.1,bD R.2]):=by
 refine co Tryz.func47 J<|Z<|bO J<|aQ an aL J fun b=>bh<|bB<|aE<|bg pR kz cj J<|bP J<|bE h J (fun h=>?_) (fun h=>?_)
 ·exact ax J<|ck eK J<|bS h Wc (Io _) (bj J) fun r h=>be an ah J<|cd<|af<|aB 4 J<|so h▸bq J J ⟨aT an J J J,aN J,O⟩
 ·refine dZ<|Z<|bn vu J<|Q J<|bS h agr (abU _ _) (bj J) fun r1 h=>Q J<|bv J J<|bv J J<|dC J<|aC J<|aE<|Q J<|bP J<|bE h J (fun h=>?_) (fun h=>?_)
  ·exact Z<|T (bM an jg aL J)<|Q J<|be an ah J<|aM J<|af<|aB 4 J<|so h▸bq J J ⟨aT an J J J,aN J,O⟩
  ·refine dZ<|Z<|T (bp (show bk _ _ _ ((fL aU Dq qd (fun(x:ac)=>oV x)))from(CU agq fun x y h=>abT _ h)))<|bB<|aA<|am<|Z<|bg pR kz cj J<|bP J<|Q J<|ci h fun t q_t h=>aw J (cG J)<|aw J (cG J) ?_
   obtain⟨r2,h1t,h0t⟩:=og q_t
   have q_r2g:=fun M=>(h1t M).1
   refine aw J (fun H=>bo agp (abS _ _ (q_r2g H)) ⟨(bG J H),(bG J H),O⟩)<|T (cQ (Y J) (fun M=>(bG J M)) (fun M=>(h1t M).2) h0t)<|aC J<|gp h J (fun h=>?_) (fun h=>?_)
   ·exact Z<|T (bM an jg aL J)<|be an ah J<|cd<|bT<|aB 4 J<|so h▸bq J J ⟨aT an J J J,aN J,O⟩
   ·refine ax J<|eN J<|aC J<|gp h J (fun h=>?_) (fun h=>?_)
    ·exact Z<|T (bM an jg aL J)<|Q J<|be an ah J<|aM J<|bT<|aB 4 J<|so h▸bq J J ⟨aT an J J J,aN J,O⟩
    ·refine Z<|bg pR kz cj J<|bP J<|aC J<|gp h J (fun h=>?_) (fun h=>?_)
     ·exact ax J<|ck jE J<|bS h Wc (Io _) (bj J) fun r3 h=>be an ah J<|cd<|bT<|aB 4 J<|so h▸bq J J ⟨aT an J J J,aN J,O⟩
     ·refine Z<|bg pR kz cj J<|bP J<|aC J<|gp h J (fun h=>?_) (fun h=>?_)
      ·exact ax J<|bS h ago (abR _) (bj J) fun r4 h=>bv J J<|bv J J<|be an ah J<|aM J<|bT<|aB 4 J<|so h▸bq J J ⟨aT an J J J,aN J,O⟩
      ·refine ax J<|ck jE J<|bP J<|aC J<|gp h J (fun h=>?_) (fun h=>?_)
       ·exact Z<|T (bM an jg aL J)<|be an ah J<|cd<|bT<|aB 4 J<|so h▸bq J J ⟨aT an J J J,aN J,O⟩
       ·refine Z<|bg pR kz cj J<|bP J<|aC J<|gp h J (fun h=>?_) (fun h=>?_)
        ·exact ax J<|bS h agn (abQ _ _) ⟨(Y J),(CU acO fun x y h=>QI _ _ h),O⟩ fun r5 h=>be an ah J<|cd<|bT<|aB 4 J<|so h▸bq J J ⟨aT an J J J,aN J,O⟩
        ·exact bc<|ay<|ap<|ax J<|bS h agm (abP _ _) ⟨(Y J),(CU acO fun x y h=>QI _ _ h),O⟩ fun r6 h=>be an ah J<|cd<|aB 4 J<|so h▸bq J J ⟨aT an J J J,aN J,O⟩

def adU(b:Nat)(ix:OI) r n{R}(h:kM r n=some R):ea aU 25 [tV (ba b 0),tD aW n] (lM b r ix) (fun _:OI=>tT [cr (cu) R.1,bD R.2]) (fun _=>(lM b r ix)):=by
 refine ea.of Tryz.func25 J J J fun w0 S0=>?_;refine(show CG _ _ _ [bx (rH hX [(1,bw (ix.h 0).1 (ix.h 0).2 r.rows.length),(2,bw (ix.h 1).1 (ix.h 1).2 r.width.length)]) 65 b r,gO ei 32 (ix.h 0).1 (ix.h 0).2 r.rows,gO cI 3 (ix.h 1).1 (ix.h 1).2 r.width] _ from ?_);refine Z<|bO J<|dO (cu)<|bh<|bB<|aA<|ci h fun e q_e h=>ci h fun r1 q_r1 h=>?_
 refine iQ (ts:=[_,_,_,_,_,_,_,_,_,_,_,_,_,_,_,_]) mixed J J
  ⟨dc J J,
  ⟨cT 17 0 J J (ee (Y J)),
  ⟨cT 18 1 J J (tp 1 ub J J J),
  ⟨cT 19 2 J J (eD q6 J (.head _) (.tail _ (.head _)) (Y J)),
  ⟨jH 3 J J (ic iO de J J),
  ⟨dh 4 cj J J,
  ⟨cM 20 3 22 5 J J J (bm lr gb J (km (Y J)) (Y J) q_e),
  ⟨dh 6 gb J J,
  ⟨jH 3 J J (ic pT iY J J),
  ⟨dh 8 eQ J J,
  ⟨cM 24 7 26 9 J J J (bo agN (acc _ _ q_r1) ⟨(Y J),(Y J),O⟩),
  ⟨cT 27 10 J J (gL J),
  ⟨cT 16 11 J J (vo J J),
  ⟨cT 16 11 J J (vo J J),
  ⟨cT 28 12 J J (sE J),
  ⟨cT 29 13 J J (sE J),
  O⟩⟩⟩⟩⟩⟩⟩⟩⟩⟩⟩⟩⟩⟩⟩⟩ ?_
 refine ap<|aE<|Q J<|eN J<|bE h J (fun h=>?_) (fun h=>?_)
 ·exact ax J<|dO (cu)<|aM J<|af<|aP<|aP<|aP<|so h▸fS (ts:=[cr (cu) ([]),bD r1.2]) (rvs:=[.tmp 4,.tmp 5]) J J ⟨aN J,aN J,O⟩ sF J J
 ·refine dZ ?_;refine fi (aF:=fun groups=>nH n groups=some R) (Of:=fun groups=>[bx (rH hX [(1,bw (ix.h 0).1 (ix.h 0).2 r.rows.length),(2,bw (ix.h 1).1 (ix.h 1).2 r.width.length)]) 65 b r,gO ei 32 (ix.h 0).1 (ix.h 0).2 r.rows,gO cI 3 (ix.h 1).1 (ix.h 1).2 r.width]) (Gf:=fun groups=>[(3,bF aW n),(6,cr (dF) groups)]) (fun groups h=>?_) (fun h2=>?_)
  ·skip
   refine Z<|bQ false cu 54<|T (bp qa)<|bB<|aE<|Q J<|ck Cu J<|T (cv hI)<|bB<|am<|aZ (k:=44) J fun hN=>bA ?_;refine aD (iR (aF:=fun ls i out l c=>(groups.drop i=ls)/\hT n ls out=some R) (Of:=fun _ i out l c=>[ff cu 54 l c out,bx (rH hX [(1,bw (ix.h 0).1 (ix.h 0).2 r.rows.length),(2,bw (ix.h 1).1 (ix.h 1).2 r.width.length)]) 65 b r,gO ei 32 (ix.h 0).1 (ix.h 0).2 r.rows,gO cI 3 (ix.h 1).1 (ix.h 1).2 r.width]) (Gf:=fun _ i out l c=>[(3,bF aW n),(8,my l c out),(44,cr (dF) groups),(45,kP groups),(46,bD (i:Int))]) (fun i out l c h=>?_) (fun e1 tl ih i out l c h=>?_) groups 0 yN none 0 ⟨J,h⟩) (bf J)
   ·obtain⟨V,h⟩:=h
    refine eY V J<|ap<|ax J<|dC J<|cd<|dU<|bN 8 J<|bN 80 J ?_;exact bN 4 J<|dQ 4 J<|aG<|aP<|aP<|aP<|so h▸fS (ts:=[cr (cu) out,bD 0]) (rvs:=[.tmp 4,.tmp 5]) J J ⟨aN J,aN J,O⟩ sF J J
   ·obtain⟨V,h⟩:=h
    refine eX V J<|aA<|am<|Z<|cW Cu BO J (cD V)<|aQ BO Aj J fun b1=>be BO ah J<|aV 10 J<|bB<|Z<|wV VH Ie J ?_;refine bn cP J<|lI h acT (Mr _) (bj J) fun r2 h l1 c1=>aC J<|aE<|bg oM kJ zY J<|ck uz J<|T (cv hI)<|bB<|am<|aZ (k:=54) J fun hN1=>bA<|mQ<|mQ<|mQ<|om<|mQ ?_;refine aD (iR (aF:=fun ls1 i1 x l2 c2=>(n.Aggs.drop i1=ls1)/\j6 (hT n tl) e1 out ls1 x=some R) (Of:=fun _ i1 x l2 c2=>[ff cu 54 l c out,ff ae 57 l2 c2 x,bx (rH hX [(1,bw (ix.h 0).1 (ix.h 0).2 r.rows.length),(2,bw (ix.h 1).1 (ix.h 1).2 r.width.length)]) 65 b r,gO ei 32 (ix.h 0).1 (ix.h 0).2 r.rows,gO cI 3 (ix.h 1).1 (ix.h 1).2 r.width]) (Gf:=fun _ i1 x l2 c2=>[(3,bF aW n),(8,my l c out),(10,bF dF e1),(11,my l2 c2 x),(44,cr (dF) groups),(45,kP groups),(46,bD (i:Int)),(54,cr (eM) n.Aggs),(55,kP n.Aggs),(56,bD (i1:Int))]) (fun i1 x l2 c2 h=>?_) (fun e2 tl1 ih1 i1 x l2 c2 h=>?_) n.Aggs 0 r2 l1 c1 ⟨J,h⟩) (bf J)
    ·obtain⟨hx1,h⟩:=h
     refine eY hx1 J<|ap<|au<|Q J<|Q J<|bu<|gm<|dn 11 J<|dn 76 J<|T (aI (r:=cu) (ys:=[x]) (xs:=[.tmp 76]) eK cP J J J J J ⟨(km (Y J)),O⟩)<|bu<|ci h fun out1 q_out1 h=>bW cP J J J J eK J J (Y J) (Y J) q_out1 fun l3 c3=>?_;refine dC J<|aY<|dR V hN J<|bK<|aG ?_;exact aR (aD (ih (i+1) out1 l3 c3 ⟨cH V,h⟩) (bf J))
    ·obtain⟨hx1,h⟩:=h
     refine eX hx1 J<|aA<|am<|Z<|cW uz vu J (cD hx1)<|aQ vu GY J fun b2=>be vu ah J<|aV 13 J<|bB<|Z<|bn vu J ?_;refine bg QF CW gb J<|bS h agM (acb _ _) (bj J) fun r3 h=>Q J<|bv J J<|bv J J<|aQ an aL J fun b3=>be an ah J<|aV 14 J<|aC J<|aE<|Q J<|eN J<|bE h J (fun h=>?_) (fun h=>?_)
     ·exact ax J<|dO (cu)<|aM J<|af<|bT<|af<|bT<|bT<|af<|bT<|aG<|aG<|aP<|aP<|aP<|so h▸fS (ts:=[cr (cu) ([]),bD r3.2]) (rvs:=[.tmp 4,.tmp 5]) J J ⟨aN J,aN J,O⟩ sF J J
     ·refine dZ<|au<|Q J<|bn an J<|T (aI (r:=ae) (ys:=[r3.1]) (xs:=[.tmp 71]) nD an J J J J J ⟨(Y J),O⟩)<|bu<|ci h fun x1 q_x1 h=>bW an J J J J nD J J (Y J) (Y J) q_x1 fun l4 c4=>dC J<|aY<|dR hx1 hN1 J<|hJ<|hJ<|hJ<|db<|hJ ?_;exact aR (aD (ih1 (i1+1) x1 l4 c4 ⟨cH hx1,h⟩) (bf J))
  ·skip
   refine Z<|bg pT iY eQ J<|ck fz J<|bP J<|Q J<|aw J (cG J)<|aw J (jJ Cu J)<|aw J (fV J)<|dv J<|bE h J (fun h=>?_) (fun h=>?_)
   ·refine au<|T (bM BO XY Aj J)<|T (aI (r:=dF) (ys:=[Xc]) (xs:=[.tmp 42]) Cu BO J J J J J ⟨(Y J),O⟩)<|dC J<|aY ?_;exact ce (h2 ([Xc]) h) (bf J)
   ·refine bc ?_;exact ce (h2 r1.1 h) (bf J)

def adT(b:Nat)(ix:OI) r n{R}(h:kL r n=some R):ea aU 26 [tV (ba b 0),tD aW n] (lM b r ix) (fun _:OI=>tT [cr (cu) R.1,bD R.2]) (fun _=>(lM b r ix)):=by
 refine ea.of Tryz.func26 J J J fun w0 S0=>?_;refine(show CG _ _ _ [bx (rH hX [(1,bw (ix.h 0).1 (ix.h 0).2 r.rows.length),(2,bw (ix.h 1).1 (ix.h 1).2 r.width.length)]) 65 b r,gO ei 32 (ix.h 0).1 (ix.h 0).2 r.rows,gO cI 3 (ix.h 1).1 (ix.h 1).2 r.width] _ from ?_);refine Z<|bO J<|dO (cu)<|bh<|bB<|Z<|bQ false cu 54<|T (bp qa)<|bB<|aA<|aA<|ci h fun e q_e h=>?_
 refine iQ (ts:=[_,_,_,_,_,_,_,_,_,_]) mixed J J
  ⟨dc J J,
  ⟨cT 14 0 J J (ee (Y J)),
  ⟨cT 15 1 J J (tp 1 ub J J J),
  ⟨cT 16 2 J J (eD q6 J (.tail _ (.head _)) (.tail _ (.tail _ (.head _))) (Y J)),
  ⟨jH 3 J J (ic iO de J J),
  ⟨dh 4 cj J J,
  ⟨cM 17 3 19 5 J J J (bm lr gb J (km (Y J)) (Y J) q_e),
  ⟨dh 6 gb J J,
  ⟨cT 21 7 J J (UC eK J),
  ⟨PI J (cv hI),
  O⟩⟩⟩⟩⟩⟩⟩⟩⟩⟩ ?_
 refine ap<|am<|aZ (k:=21) J fun hN=>bA ?_;refine aD (iR (aF:=fun ls i out l c=>(e.drop i=ls)/\hZ n ls out=some R) (Of:=fun _ i out l c=>[ff cu 54 l c out,bx (rH hX [(1,bw (ix.h 0).1 (ix.h 0).2 r.rows.length),(2,bw (ix.h 1).1 (ix.h 1).2 r.width.length)]) 65 b r,gO ei 32 (ix.h 0).1 (ix.h 0).2 r.rows,gO cI 3 (ix.h 1).1 (ix.h 1).2 r.width]) (Gf:=fun _ i out l c=>[(3,bF aW n),(6,my l c out),(21,cr (cu) e),(22,kP e),(23,bD (i:Int))]) (fun i out l c h=>?_) (fun e1 tl ih i out l c h=>?_) e 0 yN none 0 ⟨J,h⟩) (bf J)
 ·obtain⟨V,h⟩:=h
  refine eY V J<|ap<|ax J<|dC J<|cd<|dU<|bN 6 J<|bN 53 J ?_;exact bN 4 J<|dQ 4 J<|aG<|aP<|aP<|aP<|so h▸fS (ts:=[cr (cu) out,bD 0]) (rvs:=[.tmp 4,.tmp 5]) J J ⟨aN J,aN J,O⟩ sF J J
 ·obtain⟨V,h⟩:=h
  refine eX V J<|aA<|am<|Z<|cW eK cP J (cD V)<|aC J<|Z<|bQ false ae 57<|T (bp qa)<|aY ?_;refine ap<|aE<|bg pS kI zX J<|ck vk J<|T (cv hI)<|bB<|am<|aZ (k:=28) J fun hN1=>bA<|mQ<|mQ<|mQ<|om<|mQ ?_;refine aD (iR (aF:=fun ls1 i1 y l1 c1=>(n.Items.drop i1=ls1)/\ja (hZ n tl) e1 out ls1 y=some R) (Of:=fun _ i1 y l1 c1=>[ff cu 54 l c out,ff ae 57 l1 c1 y,bx (rH hX [(1,bw (ix.h 0).1 (ix.h 0).2 r.rows.length),(2,bw (ix.h 1).1 (ix.h 1).2 r.width.length)]) 65 b r,gO ei 32 (ix.h 0).1 (ix.h 0).2 r.rows,gO cI 3 (ix.h 1).1 (ix.h 1).2 r.width]) (Gf:=fun _ i1 y l1 c1=>[(3,bF aW n),(6,my l c out),(8,cr (ae) e1),(9,my l1 c1 y),(21,cr (cu) e),(22,kP e),(23,bD (i:Int)),(28,cr (cm) n.Items),(29,kP n.Items),(30,bD (i1:Int))]) (fun i1 y l1 c1 h=>?_) (fun e2 tl1 ih1 i1 y l1 c1 h=>?_) n.Items 0 EH none 0 ⟨J,h⟩) (bf J)
  ·obtain⟨hx1,h⟩:=h
   refine eY hx1 J<|ap<|au<|Q J<|Q J<|bu<|gm<|dn 9 J<|dn 49 J<|T (aI (r:=cu) (ys:=[y]) (xs:=[.tmp 49]) eK cP J J J J J ⟨(km (Y J)),O⟩)<|bu<|ci h fun out1 q_out1 h=>bW cP J J J J eK J J (Y J) (Y J) q_out1 fun l2 c2=>?_;refine dC J<|aY<|dR V hN J<|bK<|aG ?_;exact aR (aD (ih (i+1) out1 l2 c2 ⟨cH V,h⟩) (bf J))
  ·obtain⟨hx1,h⟩:=h
   refine eX hx1 J<|aA<|am<|Z<|cW vk jk J (cD hx1)<|aQ jk vm J fun b1=>be jk ah J<|aV 11 J<|bB<|Z<|bn jk J ?_;refine Q J<|bS h acS (QL _ _) (bj J) fun r1 h=>Q J<|bv J J<|bv J J<|aQ an aL J fun b2=>be an ah J<|aV 12 J<|aC J<|aE<|Q J<|eN J<|bE h J (fun h=>?_) (fun h=>?_)
   ·exact ax J<|dO (cu)<|aM J<|af<|bT<|af<|bT<|bT<|af<|bT<|aG<|aG<|aP<|aP<|aP<|so h▸fS (ts:=[cr (cu) ([]),bD r1.2]) (rvs:=[.tmp 4,.tmp 5]) J J ⟨aN J,aN J,O⟩ sF J J
   ·refine dZ<|au<|Q J<|bn an J<|T (aI (r:=ae) (ys:=[r1.1]) (xs:=[.tmp 44]) nD an J J J J J ⟨(Y J),O⟩)<|bu<|ci h fun y1 q_y1 h=>bW an J J J J nD J J (Y J) (Y J) q_y1 fun l3 c3=>dC J<|aY<|dR hx1 hN1 J<|hJ<|hJ<|hJ<|db<|hJ ?_;exact aR (aD (ih1 (i1+1) y1 l3 c3 ⟨cH hx1,h⟩) (bf J))

def R4 l{R}(h:wh l=some R):fR aU 53 [cr (cu) l] false cu 54 R:=by
 refine fR.of Tryz.func53 J J J fun w0 S0=>Z<|bQ false cu 54<|T (bp qa)<|bB<|ax J<|lI h ad9 (R1 _) (bj J) fun r h l1 c=>aC J<|ax J<|ci h fun u9 q_srt h=>?_;refine IT (n:=r.length) A4 ?_ acQ ?_ q_srt ?_ ?_ ?_ ?_ ?_
 ·rfl
 ·rfl
 ·exact(Y J)
 ·rfl
 ·exact(show bk _ _ _ ((fL aU Jf BM (fun(x:(List ac)×(List ac))=>sj x.1 x.2)))from(CU ZD fun x y h=>Mo _ _ h))
 ·rfl
 intro hl
 exact rt hl 5 J<|rt hl 3 J<|rt hl 6 J<|bB<|ax J<|aM J<|so h▸fY J J
end Go.Proofs.YtpgjgkdpeagjbaaGreatDoor

