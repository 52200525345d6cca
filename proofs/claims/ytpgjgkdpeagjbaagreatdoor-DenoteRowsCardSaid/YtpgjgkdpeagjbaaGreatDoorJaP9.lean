/- eJ of this claim: P9. -/
import Derived.Test.YtpgjgkdpeagjbaaGreatDoorJaT
import Derived.Test.YtpgjgkdpeagjbaaGreatDoorJaP8
set_option linter.all false
namespace Go.Proofs.YtpgjgkdpeagjbaaGreatDoor
open Go
set_option maxRecDepth 100000

def VJ a1 b{R}(h:sk a1 b=some R):bY aU 81 [cr (ae) a1,cr (ae) b] (gM R):=by
 exact co Tryz.func81 J<|Z<|ca<|bB<|ax J<|Q J<|bS h afp (Zi _ _) (bj J) fun r h=>aM J<|so h▸av J J

def abW columns a1 b{R}(h:iI columns a1 b=some R):bY aU 80 [cr (ae) a1,cr (ae) b,bF sH columns] (gM R):=by
 refine co Tryz.func80 J<|Z<|ca<|bB<|aA<|ci h fun r q_r h=>ci h fun r1 q_r1 h=>ci h fun r2 q_r2 h=>?_
 refine iQ (ts:=[_,_,_,_,_,_,_,_]) mixed J J
  ⟨dc J J,
  ⟨jH 2 J J (nE eQ J J),
  ⟨cM 6 0 7 1 J J J (bo Wd (Ip _ _ q_r) ⟨(Y J),(Y J),O⟩),
  ⟨dc J J,
  ⟨jH 2 J J (nE eQ J J),
  ⟨cM 9 3 10 4 J J J (bo Wd (Ip _ _ q_r1) ⟨(Y J),(Y J),O⟩),
  ⟨cM 8 2 11 5 J J J (bo ad8 (VJ _ _ q_r2) ⟨(Y J),(Y J),O⟩),
  ⟨cT 12 6 J J (sE J),
  O⟩⟩⟩⟩⟩⟩⟩⟩ ?_
 exact ap<|fD<|so h▸av J J

def Zh(l:(List (List ac)))(alike:((List ac)->(List ac)->Option Bool))(b:Nat):C8 aU 139 (fun(x:(List (List ac)))=>[cr (cu) x]) (fun _=>yW l alike) [bx ei 32 b l] [tV (ba b 0),bF (rT ((fL aU Jf qd (fun(x:(List ac)×(List ac))=>alike x.1 x.2)))) ()]:=by
 refine C8.of Tryz.func139 J J J fun Sg yld s R h h1 yv hy e he w0 S0 B hB=>?_
 replace h:yW l alike yld s=some R:=h
 refine am<|bA<|fh ?_;refine aD (Tc (aF:=fun n e1 s1 x=>h1 s1 e1/\mb alike yld n s1 x=some R) (Of:=fun e1 s1 x=>[bx ei 32 b x,e1]) (Gf:=fun e1 s1 x=>[(0,tV yv),(1,tV (ba b 0)),(2,bF (rT ((fL aU Jf qd (fun(x:(List ac)×(List ac))=>alike x.1 x.2)))) ())]) (fun e1 s1 x h=>nn h.2) (fun n ih e1 s1 x h=>?_) fm e s l ⟨he,h⟩) (bf J);refine cU ?_
 obtain⟨he1,h⟩:=h
 refine aE<|T (bR gb J J bz (.head _) (Y J))<|ck eK J<|T (dy (Y J) hI)<|bE h J (fun h=>?_) (fun h=>?_)
 ·refine dZ<|am<|Z<|bh<|bB<|aA<|am<|bA ?_;refine aD (zB (aF:=fun n2 n1=>pw alike yld (mb alike yld n) s1 x n2 n1=some R) (Of:=fun n1=>[bx ei 32 b x,e1]) (Gf:=fun n1=>[(0,tV yv),(1,tV (ba b 0)),(2,bF (rT ((fL aU Jf qd (fun(x:(List ac)×(List ac))=>alike x.1 x.2)))) ()),(4,bD n1)]) (fun n1 h=>nn h) (fun n2 ih1 n1 h=>?_) fm (1:Int) h) (bf J);refine cU<|aA<|aA<|ci h fun t q_t h=>?_
  obtain⟨e2,h1t,h0t⟩:=og q_t
  have q_e2g:=fun M=>(h1t M).1
  obtain⟨e3,h1t⟩:=RI (fun M=>(h1t M).2)
  have q_e3g:=fun M=>(h1t M).1
  obtain⟨r,h1t⟩:=RI (fun M=>(h1t M).2)
  have q_rg:=fun M=>(h1t M).1
  refine iQ (ts:=[_,_,_,_,_,_,_,_,_,_,_,_,_,_,_]) mixed J J
   ⟨dc J J,
   ⟨jH 1 J J (bR gb J J bz (.head _) (Y J)),
   ⟨cT 9 1 J J (UC eK J),
   ⟨cM 8 0 10 2 J J J (zlt J J),
   ⟨cT 11 3 J J (gL J),
   ⟨jF 2 12 4 J J J (bU J J J J (fun H=>wr adl (Y J))),
   ⟨jF 1 12 4 J J J (bU J J J J (fun H=>bR gb J J bz (.head _) (Y J))),
   ⟨fq 14 6 12 4 J J J (bU J J J J (fun H=>bm eK cP J (bG J H) hI (q_e2g H))),
   ⟨fq 15 7 12 4 J J J (bU J J J J (fun H=>cJ cP J J (bG J H))),
   ⟨jF 1 12 4 J J J (bU J J J J (fun H=>bR gb J J bz (.head _) (Y J))),
   ⟨jF 4 12 4 J J J (bU J J J J (fun H=>gL J)),
   ⟨lZ 17 9 18 10 12 4 J J J J (bU J J J J (fun H=>bm eK cP J (bG J H) (bG J H) (q_e3g H))),
   ⟨fq 19 11 12 4 J J J (bU J J J J (fun H=>cJ cP J J (bG J H))),
   ⟨⟨[⟨13,_,some 5⟩,⟨16,_,some 8⟩,⟨20,_,some 12⟩,⟨12,_,some 4⟩],_,J,⟨J,J,J,J,O⟩,J,J,bU J J J J (fun H=>jV (args:=aa3) (res:=Nm) (f:=(fun(x:(List ac)×(List ac))=>alike x.1 x.2)) (x:=((e2,e3):(List ac)×(List ac))) (bG J H) (q_rg H) ⟨(bG J H),(bG J H),O⟩)⟩,
   ⟨cM 12 4 21 13 J J J (cQ (Y J) (fun M=>(bG J M)) (fun M=>(h1t M).2) h0t),
   O⟩⟩⟩⟩⟩⟩⟩⟩⟩⟩⟩⟩⟩⟩⟩ ?_
  refine ap<|gp h J (fun h=>?_) (fun h=>?_)
  ·refine dZ<|am<|au<|Q J<|T (eG (Y J) hI)<|dC J<|aY<|ay ?_;exact aR (aD (ih1 (IntKind.i64.wrap (n1+(1:Int))) h) (bf J))
  ·refine d7<|aH<|aH<|cF<|ap<|aE<|Q J<|T (bR gb J J bz (.head _) (Y J))<|Q J<|ci h fun y q_y h=>T (Qt eK cP J (Y J) (Y J) q_y)<|bu<|ci h fun r1 q_r1 h=>IS hy he1 q_r1 (Y J) ⟨(Y J),O⟩ J fun e4 he2=>T (dY (Y J))<|bE h J (fun h=>?_) (fun h=>?_)
   ·exact fD<|af<|bT<|lq<|bK<|bK<|so h▸MY J he2 hB ⟨fun _ h=>h,O⟩
   ·refine dZ<|au<|T (bR gb J J bz (.tail _ (.head _)) (Y J))<|Q J<|ci h fun y1 q_y1 h=>T (Qs eK cP J (Y J) (Y J) q_y1)<|bu<|be gb ah J<|aY<|ay ?_;exact aR (aD (ih e4 r1.2 y1 ⟨he2,h⟩) (bf J))
 ·exact d7<|aH<|aH<|cF<|bK<|so h▸PC J he1 hB ⟨fun _ h=>h,O⟩

def X3 l alike{R}(h:Hy l alike=some R):C1 aU 82 [cr (cu) l,(fL aU Jf qd (fun(x:(List ac)×(List ac))=>alike x.1 x.2))] (fun(x:(List (List ac)))=>[cr (cu) x]) R:=by
 exact C1.of Tryz.func82 J J J fun w0 S0=>Z<|vI (Y J) J fun b=>T (Gy (Y J))<|T (bp hV)<|bB<|Z<|F9 (O1:=[bx ei 32 b l]) (cts:=[tV (ba b 0),bF (rT ((fL aU Jf qd (fun(x:(List ac)×(List ac))=>alike x.1 x.2)))) ()]) (caps:=[.tmp 2,.tmp 3]) J afo (Zh l alike b) ⟨(Y J),(Y J),O⟩ J fun v fp=>aM J<|so h▸PA J J

def X2 s{R}(h:gR s=some R):fR aU 83 [cr (cu) s] false cu 54 R:=by
 refine fR.of Tryz.func83 J J J fun w0 S0=>Z<|bQ false cu 54<|T (bp qa)<|bB<|aE<|Q J<|wI eK (Y J) J fun isnil hisnil=>bB<|rJ (Y J) (fun hc=>?_) (fun hc=>?_)
 ·have V:=hisnil hc
  have h:some yN=some R:=by simpa [gR,app,V] using h
  exact Z<|bQ false cu 54<|T (bp qa)<|cK<|af<|so h▸fY J J
 ·exact dZ<|Z<|mo (r:=cu) (ys:=yN) (xs:=[]) eK cP J J J J J trivial J fun l c=>Q J<|ci h fun x q_x h=>bW cP J J J J eK J J (Y J) (Y J) q_x fun l1 c1=>aM J<|so h▸fY J J
def abV s{R}(h:gR s=some R):bY aU 83 [cr (cu) s] (cr (cu) R):=(X2 _ h).spec

def acc l columns{R}(h:wj l columns=some R):bY aU 45 [cr (cu) l,kq columns] (tT [cr (dF) R.1,bD R.2]):=by
 refine Ph Tryz.func45 J J J fun w0 S0=>Z<|bO J<|dO (dF)<|bh<|bB<|aE<|Q J<|bn eQ J<|bS h agx (abY _ _) (bj J) fun r h=>aC J<|ax J<|eN J<|bB ?_;refine gp h J (fun h=>?_) (fun h=>?_)
 ·exact ax J<|dO (dF)<|aM J<|af<|uY<|so h▸bH J J J
 ·refine dZ<|ax J<|lI h ad9 (R1 _) (bj J) fun r1 h l1 c=>aC J<|ax J<|T ((show cz _ _ _ _ ((fL aU Jf BM (fun(x:(List ac)×(List ac))=>(oF columns) x.1 x.2)))from kg (cts:=[bF sH columns]) (caps:=[.tmp 3]) agw ⟨(Y J),O⟩ (fun x y h=>abX _ _ _ h)))<|ci h fun u9 q_srt h=>?_;refine IT (n:=r1.length) A4 ?_ acQ ?_ q_srt ?_ ?_ ?_ ?_ ?_
  ·rfl
  ·rfl
  ·exact(Y J)
  ·rfl
  ·exact(Y J)
  ·rfl
  intro hl
  refine rt hl 18 J<|rt hl 7 J<|rt hl 19 J<|bB<|Z<|T ((show cz _ _ _ _ ((fL aU Jf qd (fun(x:(List ac)×(List ac))=>(iI columns) x.1 x.2)))from kg (cts:=[bF sH columns]) (caps:=[.tmp 3]) agv ⟨(Y J),O⟩ (fun x y h=>abW _ _ _ h)))<|aC J<|Z<|bQ false dF 97<|aQ (x:=bw none 0 0) Xm (fun _=>HJ) J fun b=>bB<|aE<|Q J<|Q J<|gk<|gm ?_;refine dn 18 J<|dn 7 J<|dn 19 J<|dn 23 J<|ci h fun it q_it h=>KR agu (X3 _ _ q_it) ⟨(km (Y J)),(Y J),O⟩ J fun v fp=>bB<|am<|ci h fun s q_s h=>?_;refine Uq (fun(i:Option Nat×Nat×List eg)=>[gO cu 54 l1 c u9,bx rV 93 b (bw i.1 i.2.1 i.2.2.length),ff dF 97 i.1 i.2.1 i.2.2]) (fun(i:Option Nat×Nat×List eg)=>(i.2.2)) J (Y J) (none,0,([]:List eg)) J q_s (fun _=>J) J (fun i x s2 h lp rec1 _ _ _=>?_) (fun i hi bd=>?_)
  ·obtain⟨l2,c1,xs⟩:=i
   replace h:md columns x xs=some s2:=h
   refine(show CG _ _ _ [zc lp rec1 .ready,gO cu 54 l1 c u9,bx rV 93 b (bw l2 c1 xs.length),ff dF 97 l2 c1 xs] _ from ?_);refine I9 (G' :=[(0,cr (cu) l),(1,kq columns),(3,bF sH columns),(4,cr (dF) ([])),(5,bD 0),(6,bD r),(7,tO cu l1 c u9),(8,(fL aU Jf qd (fun(x:(List ac)×(List ac))=>(iI columns) x.1 x.2))),(9,tV (ba b 0)),(11,cr (cu) l),(12,kq columns),(13,bD r),(14,bD r),(15,gM (r !=(0:Int))),(17,cr (cu) l),(18,tO cu l1 c u9),(19,tO cu l1 c u9),(20,(fL aU Jf BM (fun(x:(List ac)×(List ac))=>(oF columns) x.1 x.2))),(22,(fL aU Jf qd (fun(x:(List ac)×(List ac))=>(iI columns) x.1 x.2))),(23,tO cu l1 c u9),(24,(fL aU Jf qd (fun(x:(List ac)×(List ac))=>(iI columns) x.1 x.2))),(26,cr (cu) x)]) ?_ ⟨J,J,J,J,J,J,J,J,J,J,J,J,J,J,J,J,J,J,J,J,J,J,O⟩;refine au<|dC J<|aY<|WW<|am<|ci h fun e q_e h=>ci h fun r2 q_r2 h=>ci h fun r3 q_r3 h=>?_
   refine BN 10 (ts:=[my l2 c1 xs,cr (cu) x,bF cu e,cr (ae) e,kq columns,cr (ae) r2,cr (cu) x,cr (cu) r3,tD dF (⟨r2,r3⟩:eg),cr (dF) ([(⟨r2,r3⟩:eg)])]) mixed J J J
    ⟨jH 9 J J (jA Xm (.tail _ (.tail _ (.head _))) (Y J)),
    ⟨dc J J,
    ⟨cT 28 1 J J (bm eK cP J (Y J) hI q_e),
    ⟨dh 2 cP J J,
    ⟨jH 3 J J (nE eQ J J),
    ⟨cM 30 3 31 4 J J J (bo Wd (Ip _ _ q_r2) ⟨(Y J),(Y J),O⟩),
    ⟨dc J J,
    ⟨cT 33 6 J J (bo agt (abV _ q_r3) ⟨(Y J),O⟩),
    ⟨cM 32 5 34 7 J J J (bM (y:=(⟨r2,r3⟩:eg)) BO XY Aj (⟨_,_,_,_,_,J,Hn,J,(Y J),⟨_,_,_,_,_,J,Hm,J,(Y J),J⟩⟩)),
    ⟨cT 35 8 J J (aI (r:=dF) (ys:=[(⟨r2,r3⟩:eg)]) (xs:=[.tmp 35]) Cu BO J J J J J ⟨(Y J),O⟩),
    O⟩⟩⟩⟩⟩⟩⟩⟩⟩⟩ ?_
   refine oj<|ci h fun l3 q_l3 h=>bW BO J J J J Cu J J (Y J) (Y J) q_l3 fun l4 c2=>oj<|dA Xm J ah J (Y J) (Uz (Y J))<|aY<|ay<|bK<|bK<|db<|db ?_;exact PD (l4,c2,l3) (so h) J
  ·skip
   obtain⟨l5,c3,xs1⟩:=i
   have hi:xs1=s:=hi
   subst hi
   refine(show AT _ _ _ [E9 bd,gO cu 54 l1 c u9,bx rV 93 b (bw l5 c3 xs1.length),ff dF 97 l5 c3 xs1] _ from ?_);refine ce (G' :=[(0,cr (cu) l),(1,kq columns),(3,bF sH columns),(4,cr (dF) ([])),(5,bD 0),(6,bD r),(7,tO cu l1 c u9),(8,(fL aU Jf qd (fun(x:(List ac)×(List ac))=>(iI columns) x.1 x.2))),(9,tV (ba b 0)),(11,cr (cu) l),(12,kq columns),(13,bD r),(14,bD r),(15,gM (r !=(0:Int))),(17,cr (cu) l),(18,tO cu l1 c u9),(19,tO cu l1 c u9),(20,(fL aU Jf BM (fun(x:(List ac)×(List ac))=>(oF columns) x.1 x.2))),(22,(fL aU Jf qd (fun(x:(List ac)×(List ac))=>(iI columns) x.1 x.2))),(23,tO cu l1 c u9),(24,(fL aU Jf qd (fun(x:(List ac)×(List ac))=>(iI columns) x.1 x.2)))]) ?_ ⟨J,J,J,J,J,J,J,J,J,J,J,J,J,J,J,J,J,J,J,J,J,O⟩;exact ay<|ap<|Z<|T (jA Xm (.tail _ (.tail _ (.head _))) (Y J))<|dC J<|cd<|db<|dU<|bN 4 J<|bN 38 J<|dQ 4 J<|aG<|bK<|aG<|bK<|aG<|EB<|uY<|so h▸bH J J J

def abU a1 rows{R}(h:AY a1 rows=some R):bY aU 85 [tD eM a1,cr (cu) rows] (tT [cr (ae) R.1,bD R.2]):=by
 refine co Tryz.func85 J<|Z<|bO J<|dO (ae)<|bh<|bB<|Z<|bQ false ae 57<|T (bp qa)<|bB<|Z<|bh<|bB<|aE<|Q J<|ck eK J ?_;refine T (cv hI)<|bB<|am<|aZ (k:=12) J fun hN=>bA ?_;refine aD (lQ (aF:=fun ls i out l c fault=>(rows.drop i=ls)/\ld a1 ls out fault=some R) (Of:=fun _ i out l c fault=>[ff ae 57 l c out]) (Gf:=fun _ i out l c fault=>[(2,bF eM a1),(6,my l c out),(7,bD fault),(12,cr (cu) rows),(13,kP rows),(14,bD (i:Int))]) (fun i out l c fault h=>?_) (fun e tl ih i out l c fault h=>?_) rows 0 EH none 0 (0:Int) ⟨J,h⟩) (bf J)
 ·obtain⟨V,h⟩:=h
  refine eY V J<|ap<|ax J<|Q J<|dC J<|aM J<|dU<|bN 6 J ?_;exact bN 41 J<|bN 4 J<|dQ 4 J<|aG<|so h▸bH J J J
 ·obtain⟨V,h⟩:=h
  refine eX V J<|aA<|am<|Z<|cW eK cP J (cD V)<|aC J<|Z<|bg xH ro jk J<|Q J ?_;refine bS h acS (QL _ _) (bj J) fun r h=>Q J<|bv J J<|bv J J<|aQ an aL J fun b=>be an ah J<|aV 10 J<|aC J<|am<|ax J<|bP J<|aC J<|gp h J (fun h=>?_) (fun h=>?_)
  ·refine au<|Q J<|dC J<|aY<|ay<|dR V hN J ?_;exact aR (aD (ih (i+1) out l c r.2 ⟨cH V,h⟩) (bf J))
  ·refine ax J<|eN J<|aC J<|gp h J (fun h=>?_) (fun h=>?_)
   ·exact Z<|dO (ae)<|cd<|lq<|bT<|af<|bT<|aG<|so h▸bH J J J
   ·refine Z<|bg cY bC cj J<|eN J<|aC J<|gp h J (fun h=>?_) (fun h=>?_)
    ·refine au<|Q J<|bn an J<|T (aI (r:=ae) (ys:=[r.1]) (xs:=[.tmp 37]) jE an J J J J J ⟨(Y J),O⟩)<|ci h fun out1 q_out1 h=>bW an J J J J jE J J (Y J) (Y J) q_out1 fun l1 c1=>dC J<|aY<|ay<|dR V hN J ?_;exact aR (aD (ih (i+1) out1 l1 c1 fault ⟨cH V,h⟩) (bf J))
    ·refine bc<|ay<|dR V hN J ?_;exact aR (aD (ih (i+1) out l c fault ⟨cH V,h⟩) (bf J))

def abT v{R}(h:oV v=some R):bY aU 86 [tD ae v] (gM R):=by
 exact co Tryz.func86 J<|Z<|bO J<|ca<|bB<|Z<|bg cY bC cj J<|eN J<|aM J<|so h▸av J J

def Zg s f{R}(h:iS s f=some R):bY aU 140 [cr (ae) s,(fL aU Dq qd (fun(x:ac)=>f x))] (bD R):=by
 refine co Tryz.func140 J<|Z<|bh<|bB<|aE<|Q J<|ck jE J<|T (cv hI)<|bB<|am<|aZ (k:=6) J fun hN=>bA ?_;refine aD (eI (aF:=fun ls i=>(s.drop i=ls)/\d9 f ls i=some R) (Of:=fun _ i=>[]) (Gf:=fun _ i=>[(0,cr (ae) s),(1,(fL aU Dq qd (fun(x:ac)=>f x))),(7,kP s),(8,bD (i:Int))]) (fun i h=>?_) (fun e tl ih i h=>?_) s 0 ⟨J,h⟩) (bf J)
 ·obtain⟨V,h⟩:=h
  exact eY V J<|ap<|Z<|cd<|so h▸av J J
 ·obtain⟨V,h⟩:=h
  refine eX V J<|aA<|am<|ax J<|aC J<|ax J<|Q J<|Q J<|Dt jE an J (cD V) ?_;refine bn an J<|ci h fun r q_r h=>T (jV (args:=Dq) (res:=Nm) (f:=(fun(x:ac)=>f x)) (x:=((e):ac)) (Y J) q_r ⟨(Y J),O⟩)<|bE h J (fun h=>?_) (fun h=>?_)
  ·exact ax J<|aM J<|bT<|af<|bT<|so h▸av J J
  ·refine bc<|dR V hN J ?_;exact aR (aD (ih (i+1) ⟨cH V,h⟩) (bf J))

def abS s f{R}(h:fG s f=some R):bY aU 87 [cr (ae) s,(fL aU Dq qd (fun(x:ac)=>f x))] (gM R):=by
 exact co Tryz.func87 J<|Z<|ca<|bB<|ax J<|Q J<|bS h afn (Zg _ _) (bj J) fun r h=>T (eF (Y J) hI)<|aM J<|so h▸av J J

def My v{R}(h:ug v=some R):bY aU 203 [tD ae v] (tD ae R):=by
 exact co Tryz.func203 J<|Z<|bO J<|aQ an aL J fun b=>bB<|Z<|bg fC cE wd J<|T (vc (Y J) hI (by decide))<|bg fC cE wd J<|T (oL xO xv (Y J))<|T (bM (y:=(⟨(4:Int),((v.N).fdiv (2^(min (Int.toNat (63:Int)) IntKind.i64.bits))),(IntKind.u64.wrap v.N),[]⟩:ac)) an jg aL (⟨_,_,_,_,_,J,lu,J,hI,⟨_,_,_,_,_,J,nf,J,(Y J),⟨_,_,_,_,_,J,yU,J,(Y J),J⟩⟩⟩))<|be an ah J<|aV 2 J<|cK<|so h▸fT J an J J J

def YL s t{R}(h:zy s t=some R):bY aU 204 [tD ae s,tD ae t] (tT [tD ae R.1,bD R.2]):=by
 refine co Tryz.func204 J<|Z<|bO J<|bO J<|aQ an aL J fun b=>bh<|bB<|Z<|bg rY jo hU J<|bg rY jo hU J<|ci h fun r q_r h=>T (Oj Tryz.func257 (by kernel_rfl) (by kernel_rfl) (by kernel_rfl) (by kernel_rfl) (Y J) (Y J) hI q_r)<|Q J<|bv J J<|bv J J<|dC J<|aC J ?_;refine Z<|bg fC cE wd J<|T (oL xO xv (Y J))<|bg fC cE wd J<|T (oL xO xv (Y J))<|Q J<|ci h fun r1 q_r1 h=>T (Oj Tryz.func257 (by kernel_rfl) (by kernel_rfl) (by kernel_rfl) (by kernel_rfl) (Y J) (Y J) (Y J) q_r1)<|Q J<|bv J J<|bv J J<|dC J<|aC J<|ax J<|T (oL xv xO (Y J))<|dC J<|aY ?_;refine ap<|aE<|bg fC cE wd J<|Q J<|T (EW (Y J) (Y J))<|bg fC cE wd J<|Q J<|T (EW (Y J) (Y J))<|T (EY (Y J) (Y J))<|T (du (Y J) hI)<|bE h J (fun h=>?_) (fun h=>?_)
 ·exact Z<|T (bM an jg aL J)<|be an ah J<|cd<|af<|aB 4 J<|so h▸bq J J ⟨aT an J J J,aN J,O⟩
 ·exact dZ<|ax J<|Q J<|T (bM (y:=(⟨(4:Int),(IntKind.i64.wrap r1.1),r.1,[]⟩:ac)) an jg aL (⟨_,_,_,_,_,J,lu,J,hI,⟨_,_,_,_,_,J,nf,J,(Y J),⟨_,_,_,_,_,J,yU,J,(Y J),J⟩⟩⟩))<|be an ah J<|cd<|aB 4 J<|so h▸bq J J ⟨aT an J J J,aN J,O⟩

def Zf s v{R}(h:vX s v=some R):bY aU 142 [tD ae s,tD ae v] (tT [tD ae R.1,bD R.2]):=by
 refine co Tryz.func142 J<|Z<|bO J<|bO J<|aQ an aL J fun b=>bh<|bB<|aA<|aA<|ci h fun r q_r h=>ci h fun r1 q_r1 h=>?_
 refine iQ (ts:=[_,_,_,_,_,_,_,_]) mixed J J
  ⟨jH 2 J J (nE an J J),
  ⟨cT 8 0 J J (aI (r:=ae) (ys:=[s]) (xs:=[.tmp 8]) jE an J J J J J ⟨(Y J),O⟩),
  ⟨cT 9 1 J J (bo SV (GJ _ _ q_r) ⟨hI,(Y J),O⟩),
  ⟨jH 3 J J (nE an J J),
  ⟨cT 11 3 J J (aI (r:=ae) (ys:=[v]) (xs:=[.tmp 11]) jE an J J J J J ⟨(Y J),O⟩),
  ⟨cT 12 4 J J (bo SV (GJ _ _ q_r1) ⟨hI,(Y J),O⟩),
  ⟨cT 10 2 J J (sE J),
  ⟨cT 13 5 J J (sE J),
  O⟩⟩⟩⟩⟩⟩⟩⟩ ?_
 refine ap<|am<|ax J<|bP J<|Q J<|aO J (cG J)<|aO J (fV J)<|fj J<|aC J<|gp h J (fun h=>?_) (fun h=>?_)
 ·exact Z<|T (bM an jg aL J)<|be an ah J<|cd<|bT<|aB 4 J<|so h▸bq J J ⟨aT an J J J,aN J,O⟩
 ·refine ax J<|eN J<|Q J<|aO J (cG J)<|aO J (sK J)<|fj J<|aC J<|gp h J (fun h=>?_) (fun h=>?_)
  ·exact Z<|T (bM an jg aL J)<|be an ah J<|cd<|bT<|aB 4 J<|so h▸bq J J ⟨aT an J J J,aN J,O⟩
  ·refine Z<|bg cY bC cj J<|bP J<|aC J<|gp h J (fun h=>?_) (fun h=>?_)
   ·exact Z<|bn an J<|be an ah J<|cd<|bT<|aB 4 J<|so h▸bq J J ⟨aT an J J J,aN J,O⟩
   ·refine Z<|bg cY bC cj J<|bP J<|aC J<|gp h J (fun h=>?_) (fun h=>?_)
    ·exact Z<|bn an J<|bS h Wp (My _) (bj J) fun r2 h=>be an ah J<|cd<|bT<|aB 4 J<|so h▸bq J J ⟨aT an J J J,aN J,O⟩
    ·refine bc<|ay<|ap<|aA<|ci h fun r3 q_r3 h=>ci h fun r4 q_r4 h=>?_
     refine BN 6 (ts:=[tD ae s,tD ae v,tD ae r3,tT [tD ae r4.1,bD r4.2],tD ae r4.1,bD r4.2]) mixed J J J
      ⟨jH 2 J J (nE an J J),
      ⟨jH 3 J J (nE an J J),
      ⟨cT 42 1 J J (bo Wp (My _ q_r3) ⟨(Y J),O⟩),
      ⟨cM 41 0 43 2 J J J (bo aeQ (YL _ _ q_r4) ⟨(Y J),(Y J),O⟩),
      ⟨cT 44 3 J J (vo J J),
      ⟨cT 44 3 J J (vo J J),
      O⟩⟩⟩⟩⟩⟩ ?_
     exact be an ah J<|aM J<|aB 4 J<|so h▸bq J J ⟨aT an J J J,aN J,O⟩

def Ze s{R}(h:Bx s=some R):bY aU 143 [tD ae s] (tT [tD ae R.1,bD R.2]):=by
 refine co Tryz.func143 J<|Z<|bO J<|aQ an aL J fun b=>bh<|bB<|aE<|bn an J<|T (aI (r:=ae) (ys:=[s]) (xs:=[.tmp 6]) jE an J J J J J ⟨(Y J),O⟩)<|bS h SV (GJ _ _) (bj J) fun r h=>aC J<|am<|ax J<|eN J<|dC J ?_;refine bE h J (fun h=>?_) (fun h=>?_)
 ·exact Z<|T (bM an jg aL J)<|Q J<|be an ah J<|aM J<|bT<|aB 2 J<|so h▸bq J J ⟨aT an J J J,aN J,O⟩
 ·refine Z<|bg cY bC cj J<|bP J<|aC J<|gp h J (fun h=>?_) (fun h=>?_)
  ·exact Z<|bn an J<|be an ah J<|cd<|bT<|aB 2 J<|so h▸bq J J ⟨aT an J J J,aN J,O⟩
  ·refine bc<|ay<|ap<|aE<|bg rY jo hU J<|T (oL xv xO (Y J))<|bS h Wc (Io _) (bj J) fun r1 h=>aQ an aL J fun b1=>be an ah J<|aV 5 J<|bB<|aA<|ci h fun r2 q_r2 h=>?_
   refine iQ (ts:=[_,_,_,_]) mixed J J
    ⟨jH 5 J J (nE an J J),
    ⟨cT 23 0 J J (bo Wp (My _ q_r2) ⟨(Y J),O⟩),
    ⟨jH 1 J J (nE an J J),
    ⟨cM 24 1 25 2 J J J (uu Iw (Y J) (Y J)),
    O⟩⟩⟩⟩ ?_
   refine ap<|gp h J (fun h=>?_) (fun h=>?_)
   ·exact Z<|bn an J<|be an ah J<|cd<|af<|aB 2 J<|so h▸bq J J ⟨aT an J J J,aN J,O⟩
   ·exact dZ<|Z<|T (bM an jg aL J)<|be an ah J<|cd<|aB 2 J<|so h▸bq J J ⟨aT an J J J,aN J,O⟩

def abR l{R}(h:By l=some R):bY aU 88 [cr (ae) l] (tT [tD ae R.1,bD R.2]):=by
 refine co Tryz.func88 J<|Z<|aQ an aL J fun b=>bh<|bB<|aE<|Q J<|ck jE J<|T (dy (Y J) hI)<|bE h J (fun h=>?_) (fun h=>?_)
 ·exact Z<|T (bM an jg aL J)<|be an ah J<|cd<|af<|aB 2 J<|so h▸bq J J ⟨aT an J J J,aN J,O⟩
 ·refine dZ<|Z<|bS h Wt MC trivial fun r h=>aQ an aL J fun b1=>be an ah J<|bB<|aE<|Q J<|ck jE J<|T (cv hI)<|bB<|am<|aZ (k:=14) J fun hN=>bA<|fh ?_;refine aD (yC (aF:=fun ls i x s=>(l.drop i=ls)/\o3 ls x s=some R) (Of:=fun _ i x s=>[bx ae 57 b x,bx ae 57 b1 s]) (Gf:=fun _ i x s=>[(2,tV (ba b 0)),(4,tV (ba b1 0)),(14,cr (ae) l),(15,kP l),(16,bD (i:Int))]) (fun i x s h=>?_) (fun e tl ih i x s h=>?_) l 0 vn r ⟨J,h⟩) (bf J)
  ·obtain⟨V,h⟩:=h
   refine eY V J<|ap<|Z<|T (bR an J J bz (.tail _ (.head _)) (Y J))<|bS h afl (Ze _) (bj J) fun r1 h=>bv J J<|bv J J<|be an ah J<|aC J ?_;exact fD<|aB 2 J<|aG<|so h▸bq J J ⟨aT an J J J,aN J,O⟩
  ·obtain⟨V,h⟩:=h
   refine eX V J<|aA<|am<|Z<|cW jE an J (cD V)<|aQ an aL J fun b2=>be an ah J<|aV 6 J<|bB<|Z<|T (bR an J J bz (.tail _ (.head _)) (Y J)) ?_;refine bn an J<|bS h afm (Zf _ _) (bj J) fun r2 h=>Q J<|bv J J<|bv J J<|aQ an aL J fun b3=>be an ah J<|aV 7 J<|aC J<|aE<|Q J<|eN J<|bE h J (fun h=>?_) (fun h=>?_)
   ·exact Z<|bn an J<|Q J<|be an ah J<|aM J<|af<|bT<|af<|bT<|aB 2 J<|aG<|so h▸bq J J ⟨aT an J J J,aN J,O⟩
   ·refine dZ<|au<|bn an J<|bu<|be an ah J<|aY<|dR V hN J<|bK ?_;exact aR (aD (ih (i+1) x r2.1 ⟨cH V,h⟩) (bf J))

end Go.Proofs.YtpgjgkdpeagjbaaGreatDoor

