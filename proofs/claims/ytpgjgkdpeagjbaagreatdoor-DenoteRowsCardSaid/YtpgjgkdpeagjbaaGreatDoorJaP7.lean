/- eJ of this claim: P7. -/
import Derived.Test.YtpgjgkdpeagjbaaGreatDoorJaT
import Derived.Test.YtpgjgkdpeagjbaaGreatDoorJaP6
set_option linter.all false
namespace Go.Proofs.YtpgjgkdpeagjbaaGreatDoor
open Go
set_option maxRecDepth 100000

def abM r do1 n l{R}(h:ki r do1 n l=some R):bY aU 97 [tD cx n,cr (ae) l,bF cu r,bF (rT (Rq (fun y:(ac->ac->Option (ac×Int))=>Ba aU sG wa (fun(x:ac×ac)=>y x.1 x.2)) tE do1)) ()] (tT [tD ae R.1,bD R.2]):=by
 refine co Tryz.func97 J<|Z<|bO J<|aQ an aL J fun b=>bh<|bB<|aE<|bg lX fc cj J<|bB<|am<|Z<|bP J<|aC J<|gp h J (fun h=>?_) (fun h=>?_)
 ·exact Z<|bg wB mE an J<|be an ah J<|cd<|bT<|aB 6 J<|so h▸bq J J ⟨aT an J J J,aN J,O⟩
 ·refine Z<|bP J<|aC J<|gp h J (fun h=>?_) (fun h=>?_)
  ·exact Z<|bn cP J<|bg qW i6 cj J<|ci h fun e q_e h=>cW nD an J q_e<|be an ah J<|cd<|bT<|aB 6 J<|so h▸bq J J ⟨aT an J J J,aN J,O⟩
  ·refine bc<|ay<|ap<|aA<|ci h fun e1 q_e1 h=>ci h fun e2 q_e2 h=>ci h fun r1 q_r1 h=>?_
   refine lS 19 [tc (Rq (fun y:(ac->ac->Option (ac×Int))=>Ba aU sG wa (fun(x:ac×ac)=>y x.1 x.2)) tE do1),tc (bF cI n.Tag),tc (bD n.Tag),tc (Ba aU sG wa (fun(x:ac×ac)=>((rm do1 n.Tag).getD (fun _ _=>none)) x.1 x.2)),tc (cr (ae) l),tc (bF ae e1),tc (tD ae e1),tc (cr (ae) l),tc (cr (ae) l),tc (kP l),tc (bD (IntKind.i64.wrap ((l.length:Int)-(1:Int)))),tc (bF ae e2),tc (tD ae e2),tc (tT [tD ae r1.1,bD r1.2]),tc (tT [tD ae r1.1,bD r1.2]),tc (tD ae r1.1),tc (bD r1.2),([17],fun s=>tV (ba ((s.getD 0 sF).h 0).2 0)),tc (Ap)] [false,false,false,false,false,false,false,false,false,false,false,false,false,false,false,false,false,true,true] [([],fun _=>[bx ae 57 b vn]),([17],fun sg=>[bx ae 57 ((sg 17).h 0).2 vn,bx ae 57 b vn]),([17,18],fun sg=>[bx ae 57 ((sg 17).h 0).2 r1.1,bx ae 57 b vn])] (fun _=>J) mixed J J J J
    ⟨⟨[⟨3,fun _=>bF (rT (Rq (fun y:(ac->ac->Option (ac×Int))=>Ba aU sG Dr (fun(x:ac×ac)=>y x.1 x.2)) tE do1)) (),none⟩],_,[[],[17]],J,⟨(fun _=>J),O⟩,J,J,J,J,J,⟨fun sg=>ai J (wr Rl (Y J)),fun sg=>ai J (wr Rl (Y J)),O⟩⟩,
    ⟨⟨[⟨4,fun _=>bF cx n,none⟩],_,[[],[17]],J,⟨(fun _=>J),O⟩,J,J,J,J,J,⟨fun sg=>ai J (ic lX fc J J),fun sg=>ai J (ic lX fc J J),O⟩⟩,
    ⟨⟨[⟨25,fun _=>bF cI n.Tag,some 1⟩],_,[[],[17]],J,⟨(fun _=>J),O⟩,J,J,J,J,J,⟨fun sg=>ai J (nE cj J J),fun sg=>ai J (nE cj J J),O⟩⟩,
    ⟨⟨[⟨24,fun _=>Rq (fun y:(ac->ac->Option (ac×Int))=>Ba aU sG Dr (fun(x:ac×ac)=>y x.1 x.2)) tE do1,some 0⟩,⟨26,fun _=>tD cI n.Tag,some 2⟩],_,[[],[17]],J,⟨(fun _=>J),(fun _=>J),O⟩,J,J,J,J,J,⟨fun sg=>ai J (FQ (γ:=(fun y:(ac->ac->Option (ac×Int))=>Ba aU sG Dr (fun(x:ac×ac)=>y x.1 x.2))) (z:=(fun _ _=>none)) zT (fH mK) Z0 (fun _=>Rr) (Y J) (p9 (Y J))),fun sg=>ai J (FQ (γ:=(fun y:(ac->ac->Option (ac×Int))=>Ba aU sG Dr (fun(x:ac×ac)=>y x.1 x.2))) (z:=(fun _ _=>none)) zT (fH mK) Z0 (fun _=>Rr) (Y J) (p9 (Y J))),O⟩⟩,
    ⟨⟨[⟨1,fun _=>tD cu l,none⟩],_,[[],[17]],J,⟨(fun _=>J),O⟩,J,J,J,J,J,⟨fun sg=>ai J (gL J),fun sg=>ai J (gL J),O⟩⟩,
    ⟨⟨[⟨28,fun _=>tD cu l,some 4⟩],_,[[],[17]],J,⟨(fun _=>J),O⟩,J,J,J,J,J,⟨fun sg=>ai J (bm jE an J (Y J) hI q_e1),fun sg=>ai J (bm jE an J (Y J) hI q_e1),O⟩⟩,
    ⟨⟨[⟨29,fun _=>bF ae e1,some 5⟩],_,[[],[17]],J,⟨(fun _=>J),O⟩,J,J,J,J,J,⟨fun sg=>ai J (nE an J J),fun sg=>ai J (nE an J J),O⟩⟩,
    ⟨⟨[⟨1,fun _=>tD cu l,none⟩],_,[[],[17]],J,⟨(fun _=>J),O⟩,J,J,J,J,J,⟨fun sg=>ai J (gL J),fun sg=>ai J (gL J),O⟩⟩,
    ⟨⟨[⟨1,fun _=>tD cu l,none⟩],_,[[],[17]],J,⟨(fun _=>J),O⟩,J,J,J,J,J,⟨fun sg=>ai J (gL J),fun sg=>ai J (gL J),O⟩⟩,
    ⟨⟨[⟨32,fun _=>tD cu l,some 8⟩],_,[[],[17]],J,⟨(fun _=>J),O⟩,J,J,J,J,J,⟨fun sg=>ai J (UC jE J),fun sg=>ai J (UC jE J),O⟩⟩,
    ⟨⟨[⟨33,fun _=>tD cI (l.length:Int),some 9⟩],_,[[],[17]],J,⟨(fun _=>J),O⟩,J,J,J,J,J,⟨fun sg=>ai J (dX (Y J) hI),fun sg=>ai J (dX (Y J) hI),O⟩⟩,
    ⟨⟨[⟨31,fun _=>tD cu l,some 7⟩,⟨34,fun _=>tD cI (IntKind.i64.wrap ((l.length:Int)-(1:Int))),some 10⟩],_,[[],[17]],J,⟨(fun _=>J),(fun _=>J),O⟩,J,J,J,J,J,⟨fun sg=>ai J (zW jE an J J J q_e2),fun sg=>ai J (zW jE an J J J q_e2),O⟩⟩,
    ⟨⟨[⟨35,fun _=>bF ae e2,some 11⟩],_,[[],[17]],J,⟨(fun _=>J),O⟩,J,J,J,J,J,⟨fun sg=>ai J (nE an J J),fun sg=>ai J (nE an J J),O⟩⟩,
    ⟨⟨[⟨27,fun _=>Ba aU sG Dr (fun(x:ac×ac)=>((rm do1 n.Tag).getD (fun _ _=>none)) x.1 x.2),some 3⟩,⟨30,fun _=>tD ae e1,some 6⟩,⟨36,fun _=>tD ae e2,some 12⟩],_,[[],[17]],J,⟨(fun _=>J),(fun _=>J),(fun _=>J),O⟩,J,J,J,J,J,⟨fun sg=>ai J (Kl (args:=sG) (res:=Dr) (f:=(fun(x:ac×ac)=>((rm do1 n.Tag).getD (fun _ _=>none)) x.1 x.2)) (x:=((e1,e2):ac×ac)) (Y J) q_r1 ⟨(Y J),(Y J),O⟩),fun sg=>ai J (Kl (args:=sG) (res:=Dr) (f:=(fun(x:ac×ac)=>((rm do1 n.Tag).getD (fun _ _=>none)) x.1 x.2)) (x:=((e1,e2):ac×ac)) (Y J) q_r1 ⟨(Y J),(Y J),O⟩),O⟩⟩,
    ⟨⟨[⟨37,fun _=>tT [tD ae r1.1,tD cI r1.2],some 13⟩],_,[[],[17]],J,⟨(fun _=>J),O⟩,J,J,J,J,J,⟨fun sg=>ai J (gL J),fun sg=>ai J (gL J),O⟩⟩,
    ⟨⟨[⟨23,fun _=>tT [tD ae r1.1,tD cI r1.2],some 14⟩],_,[[],[17]],J,⟨(fun _=>J),O⟩,J,J,J,J,J,⟨fun sg=>ai J (vo J J),fun sg=>ai J (vo J J),O⟩⟩,
    ⟨⟨[⟨23,fun _=>tT [tD ae r1.1,tD cI r1.2],some 14⟩],_,[[],[17],[17,18]],J,⟨(fun _=>J),O⟩,J,J,J,J,J,⟨fun sg=>ai J (vo J J),fun sg=>ai J (vo J J),fun sg=>ai J (vo J J),O⟩⟩,
    ⟨⟨[],_,[([],[17])],J,O,J,J,J,J,J,⟨fun sg=>dS J (sx an aL),O⟩⟩,
    ⟨⟨[⟨8,fun sg=>tV (ba ((sg 17).h 0).2 0),some 17⟩,⟨38,fun _=>tD ae r1.1,some 15⟩],_,[([17],[17,18])],J,⟨(fun _=>J),(fun _=>J),O⟩,J,J,J,J,J,⟨fun sg=>dS J (lC an J (oE ah) J (Y J) (Y J)),O⟩⟩,
    O⟩⟩⟩⟩⟩⟩⟩⟩⟩⟩⟩⟩⟩⟩⟩⟩⟩⟩⟩ (fun sg=>?_)
   refine(show RG _ _ _ _ [_,_] _ from ?_);refine aV 8 J<|aC J ?_;refine fi (aF:=fun no=>te r1 no=some R) (Of:=fun no=>[bx ae 57 b vn]) (Gf:=fun no=>[(6,tV (ba b 0)),(8,bF ae r1.1),(9,bD no)]) (fun no h=>?_) (fun h2=>?_)
   ·skip
    exact Z<|bn an J<|Q J<|be an ah J<|aM J<|aB 6 J<|so h▸bq J J ⟨aT an J J J,aN J,O⟩
   ·skip
    refine ax J<|eN J<|Q J<|aw J (cG J)<|aw J (sK J)<|dv J<|bE h J (fun h=>?_) (fun h=>?_)
    ·refine au<|bh<|aY ?_;exact ce (h2 (201:Int) h) (bf J)
    ·refine bc ?_;exact ce (h2 r1.2 h) (bf J)

def QL e r{R}(h:vV e r=some R):bY aU 48 [tD cm e,cr (ae) r] (tT [tD ae R.1,bD R.2]):=by
 refine co Tryz.func48 J<|Z<|bO J<|bO J<|aQ an aL J fun b=>bh<|bB<|aE<|bn jk J<|bS h acN (QH _) (bj J) fun r1 h=>aC J<|ax J<|eN J<|bB ?_;refine gp h J (fun h=>?_) (fun h=>?_)
 ·exact Z<|T (bM an jg aL J)<|Q J<|be an ah J<|aM J<|af<|aB 4 J<|so h▸bq J J ⟨aT an J J J,aN J,O⟩
 ·refine dZ<|aE<|bn jk J<|lI h ad7 (R0 _) (bj J) fun r2 h l c=>T (fO fz (.head _) (Y J))<|T (cv hI)<|bB<|am<|o7 (.head _) fun hN=>bA ?_;refine aD (ol (aF:=fun ls i x=>(r2.drop i=ls)/\qN e r ls x=some R) (Of:=fun _ i x=>[ff cI 3 l c r2,bx ae 57 b x]) (Gf:=fun _ i x=>[(2,bF cm e),(3,bF cu r),(4,tV (ba b 0)),(17,my l c r2),(18,kP r2),(19,bD (i:Int))]) (fun i x h=>?_) (fun e1 tl ih i x h=>?_) r2 0 vn ⟨J,h⟩) (bf J)
  ·obtain⟨V,h⟩:=h
   refine eY V J<|ap<|Z<|bS h agl abO trivial fun r3 h=>aQ (r:=rV) (x:= .map none) Rl (fun _=>⟨J,J⟩) J fun b1=>o6 (lC (r' :=rT (Rq (fun y:(ac->ac->Option (ac×Int))=>Ba aU sG wa (fun(x:ac×ac)=>y x.1 x.2)) tE r3)) (x' :=()) (q:=rT (Rq (fun y:(ac->ac->Option (ac×Int))=>Ba aU sG wa (fun(x:ac×ac)=>y x.1 x.2)) tE r3)) (y:=()) Rl J (xX J) J (Y J) (hTT XC (show bk _ _ _ (Rq (fun y:(ac->ac->Option (ac×Int))=>Ba aU sG wa (fun(x:ac×ac)=>y x.1 x.2)) tE r3)from(Y J)))) fun _=>?_;refine(show RG _ _ _ _ (bx (rT (Rq (fun y:(ac->ac->Option (ac×Int))=>Ba aU sG wa (fun(x:ac×ac)=>y x.1 x.2)) tE r3)) 143 b1 ()::_) _ from ?_);exact aV 9 J<|bB<|Z<|bn jk J<|T ((show cz _ _ _ _ ((fL aU Xh wa (fun(x:bZ×(List ac))=>(ki r r3) x.1 x.2)))from kg (cts:=[bF cu r,bF (rT (Rq (fun y:(ac->ac->Option (ac×Int))=>Ba aU sG wa (fun(x:ac×ac)=>y x.1 x.2)) tE r3)) ()]) (caps:=[.tmp 3,.tmp 9]) agj ⟨(Y J),(Y J),O⟩ (fun x y h=>abM _ _ _ _ h)))<|bS h agk (abN _ _) (bj J) fun r4 h=>bv J J<|bv J J<|bu<|be an ah J<|aM J<|aB 4 J<|aG<|so h▸bq J J ⟨aT an J J J,aN J,O⟩
  ·obtain⟨V,h⟩:=h
   refine eX V J<|aA<|am<|Z<|T (cn fz cj (.head _) (Y J) (Y J) (cD V))<|T (eE (r:=cI) (i:=(i:Int)) (foff:=0) cj J J bz J (.head _) (cD V) (Y J))<|aC J<|ax J<|bn cP J<|ck nD J ?_;refine T (eF (Y J) (Y J))<|Q J<|ci h fun t q_t h=>aO J (fun H=>nE cP J J)<|aO J (cG J) ?_
   obtain⟨e2,h1t,h0t⟩:=og q_t
   have q_e2g:=fun M=>(h1t M).1
   refine aO J (fun H=>bm nD an J (bG J H) (bG J H) (q_e2g H))<|aO J (cN an J J) ?_
   obtain⟨r5,h1t⟩:=RI (fun M=>(h1t M).2)
   have q_r5g:=fun M=>(h1t M).1
   refine aO J (fun H=>bo ZC (Mn _ (q_r5g H)) ⟨(bG J H),O⟩)<|aO J (nI J)<|T (eC (Y J) (fun M=>(bG J (pQ M))) (fun M=>(h1t M).2) h0t)<|bE h J (fun h=>?_) (fun h=>?_)
   ·exact Z<|T (bM an jg aL J)<|bu<|be an ah J<|cd<|bT<|af<|bT<|aB 4 J<|aG<|so h▸bq J J ⟨aT an J J J,aN J,O⟩
   ·refine bc<|dR V hN J ?_;exact aR (aD (ih (i+1) x ⟨cH V,h⟩) (bf J))

def abZ a1{R}(h:yO a1=some R):bY aU 71 [tD ae a1] (gM R):=by
 refine co Tryz.func71 J<|Z<|bO J<|ca<|bB<|aA<|ci h fun r q_r h=>?_
 refine iQ (ts:=[_,_,_,_]) mixed J J
  ⟨jH 1 J J (nE an J J),
  ⟨PI J (bo Wu (MD _ q_r) ⟨hB,O⟩),
  ⟨cM 3 0 4 1 J J J (uu Iw (Y J) (Y J)),
  ⟨cT 5 2 J J (sE J),
  O⟩⟩⟩⟩ ?_
 exact ap<|fD<|so h▸av J J

def VM e r{R}(h:tf e r=some R):bY aU 43 [tD cm e,cr (ae) r] (tT [gM R.1,bD R.2]):=by
 refine co Tryz.func43 J<|Z<|bO J<|ca<|bh<|bB<|Z<|bn jk J<|Q J<|bS h acS (QL _ _) (bj J) fun r1 h=>Q J<|bv J J<|bv J J<|aQ an aL J fun b=>be an ah J<|aV 6 J<|aC J<|aA ?_;exact au<|bn an J<|bS h agz (abZ _) (bj J) fun r2 h=>Q J<|dC J<|aM J<|so h▸bH J J J

def adW(b:Nat)(ix:OI) r n{R}(h:lD r n=some R):ea aU 23 [tV (ba b 0),tD aW n] (lM b r ix) (fun _:OI=>tT [cr (cu) R.1,bD R.2]) (fun _=>(lM b r ix)):=by
 refine Ug Tryz.func23 J J J fun w0 S0=>?_;refine(show CG _ _ _ [bx (rH hX [(1,bw (ix.h 0).1 (ix.h 0).2 r.rows.length),(2,bw (ix.h 1).1 (ix.h 1).2 r.width.length)]) 65 b r,gO ei 32 (ix.h 0).1 (ix.h 0).2 r.rows,gO cI 3 (ix.h 1).1 (ix.h 1).2 r.width] _ from ?_);refine Z<|bO J<|aQ (r:=ei) (x:=[]) gb (fun _=>⟨none,0,J,fa _,lG _,.inl J⟩) J fun b1=>aQ (r:=cI) (x:=(0:Int)) PR (fun _=>J) J fun b2=>bB<|aA<|ci h fun e q_e h=>ci h fun e1 q_e1 h=>?_
 refine iQ (ts:=[_,_,_,_,_,_,_,_,_,_,_,_,_,_,_,_,_,_]) mixed J J
  ⟨dc J J,
  ⟨cT 16 0 J J (ee (Y J)),
  ⟨cT 17 1 J J (tp 1 ub J J J),
  ⟨cT 18 2 J J (eD q6 J (.tail _ (.tail _ (.head _))) (.tail _ (.tail _ (.tail _ (.head _)))) (Y J)),
  ⟨jH 3 J J (ic iO de J J),
  ⟨dh 4 cj J J,
  ⟨cM 19 3 21 5 J J J (bm lr gb J (km (Y J)) (Y J) q_e),
  ⟨dh 6 gb J J,
  ⟨dc J J,
  ⟨cT 24 8 J J (ee (Y J)),
  ⟨cT 25 9 J J (tp 1 ub J J J),
  ⟨cT 26 10 J J (eD q6 J (.tail _ (.tail _ (.head _))) (.tail _ (.tail _ (.tail _ (.head _)))) (Y J)),
  ⟨jH 3 J J (ic mL fW J J),
  ⟨dh 12 cj J J,
  ⟨cM 27 11 29 13 J J J (bm lr gb J (km (Y J)) (Y J) q_e1),
  ⟨dh 14 gb J J,
  ⟨cT 23 7 J J (sE J),
  ⟨cT 31 15 J J (sE J),
  O⟩⟩⟩⟩⟩⟩⟩⟩⟩⟩⟩⟩⟩⟩⟩⟩⟩⟩ ?_
 refine ap<|aE<|Q J<|ck eK J<|Q J<|ck eK J<|T (xF (Y J) (Y J))<|T (dy (Y J) hI)<|bE h J (fun h=>?_) (fun h=>?_)
 ·exact Z<|bu<|dA gb J ah J (Y J) zh<|bu<|dA PR J ah J (Y J) hI<|cK<|af<|bK<|aB 4 J<|aB 5 J<|aP<|aP<|aP<|uY<|so h▸fS (ts:=[cr (cu) ([]),bD 3]) (rvs:=[.cell 4 32,.cell 5 33]) J J ⟨aT gb J J J,aT PR J J J,O⟩ sF J J
 ·refine dZ<|ax J<|ck eK J<|ci h fun mk q_mk h=>C3 (V5 (r:=rB) (x:=false) zZ J J J Tryz.underlying86 (fun _=>J) (Y J) (Y J) q_mk) J fun i=>bQ false rB 4<|aQ (x:=bw none 0 0) Xn (fun _=>HJ) J fun b3=>bu<|ZT<|dA Xn J ah J (Y J) (Uz (Y J))<|bB<|Z<|bQ false cu 54<|aQ (x:=bw none 0 0) gb (fun _=>HJ) J fun b4=>bB<|aE ?_;refine Q J<|Q J<|ci h fun it q_it h=>KR agO (Ya _ _ q_it) ⟨(Y J),(Y J),O⟩ J fun v fp=>bB<|am<|ci h fun r1 q_r1 h=>acY ?_;refine KY (fun(ix1:Option Nat×Nat×List (List ac)×Option Nat×Nat×List Bool×Int×(List (List ac)))=>[bx rV 32 b4 (bw ix1.1 ix1.2.1 ix1.2.2.1.length),ff cu 54 ix1.1 ix1.2.1 ix1.2.2.1,bx rV 86 b3 (bw ix1.2.2.2.1 ix1.2.2.2.2.1 ix1.2.2.2.2.2.1.length),ff rB 4 ix1.2.2.2.1 ix1.2.2.2.2.1 ix1.2.2.2.2.2.1,bx cI 33 b2 ix1.2.2.2.2.2.2.1,bx ei 32 b1 ix1.2.2.2.2.2.2.2,bx (rH hX [(1,bw (ix.h 0).1 (ix.h 0).2 r.rows.length),(2,bw (ix.h 1).1 (ix.h 1).2 r.width.length)]) 65 b r,gO ei 32 (ix.h 0).1 (ix.h 0).2 r.rows,gO cI 3 (ix.h 1).1 (ix.h 1).2 r.width]) (fun(ix1:Option Nat×Nat×List (List ac)×Option Nat×Nat×List Bool×Int×(List (List ac)))=>(ix1.2.2.1,ix1.2.2.2.2.2.1,ix1.2.2.2.2.2.2.1,ix1.2.2.2.2.2.2.2)) (fun _=> .ret) J (Y J) (none,0,yN,(i.h 0).1,(i.h 0).2,mk,(0:Int),[]) J q_r1 (fun _=>J) J (fun ix1 x r2 h lp rec1 _ _ _=>?_) (fun i1 j hi bd=>⟨fun hj=>?_,fun _ hj=>?_⟩)
  ·obtain⟨l,c,xs,l1,c1,xs1,x1,x2⟩:=ix1
   replace h:js n x xs xs1 x1 x2=some r2:=h
   refine(show CG _ _ _ [vb lp rec1 .ready none,bx rV 32 b4 (bw l c xs.length),ff cu 54 l c xs,bx rV 86 b3 (bw l1 c1 xs1.length),ff rB 4 l1 c1 xs1,bx cI 33 b2 x1,bx ei 32 b1 x2,bx (rH hX [(1,bw (ix.h 0).1 (ix.h 0).2 r.rows.length),(2,bw (ix.h 1).1 (ix.h 1).2 r.width.length)]) 65 b r,gO ei 32 (ix.h 0).1 (ix.h 0).2 r.rows,gO cI 3 (ix.h 1).1 (ix.h 1).2 r.width] _ from ?_);refine I9 (G' :=[(0,tV (ba b 0)),(1,tD aW n),(3,bF aW n),(4,tV (ba b1 0)),(5,tV (ba b2 0)),(6,cr (cu) e),(7,cr (cu) e1),(8,tV (ba b3 0)),(9,tV (ba b4 0)),(16,tV (ba b 0)),(17,tV (ba b 0)),(18,tV (ba b 1)),(19,tO ei (ix.h 0).1 (ix.h 0).2 r.rows),(20,bF cI n.A),(21,bD n.A),(22,bF ei e),(23,cr (cu) e),(24,tV (ba b 0)),(25,tV (ba b 0)),(26,tV (ba b 1)),(27,tO ei (ix.h 0).1 (ix.h 0).2 r.rows),(28,bF cI n.B),(29,bD n.B),(30,bF ei e1),(31,cr (cu) e1),(32,cr (cu) e),(33,kP e),(34,cr (cu) e1),(35,kP e1),(36,bD (IntKind.i64.wrap ((e.length:Int)*(e1.length:Int)))),(37,gM (decide ((40000:Int)<(IntKind.i64.wrap ((e.length:Int)*(e1.length:Int)))))),(38,cr (cu) e),(39,kP e),(41,cr (cu) e),(42,cr (cu) e1),(44,bD x.1),(45,cr (ae) x.2)]) ?_ ⟨J,J,J,J,J,J,J,J,J,J,J,J,J,J,J,J,J,J,J,J,J,J,J,J,J,J,J,J,J,J,J,J,J,J,J,J,J,O⟩;refine Z<|aC J<|au<|dC J<|aY<|Lb<|am<|Z<|bg rZ kK jk J<|Q J<|bS h aed (VM _ _) (bj J) fun r3 h=>Q J<|bv J J<|bv J J<|dC J<|aC J ?_;refine aE<|Q J<|eN J<|bE h J (fun h=>?_) (fun h=>?_)
   ·exact ax J<|Bz<|dA gb J ah J (Y J) zh<|Bz<|be PR ah J<|cK<|af<|lq<|gn<|gn<|gn<|hJ<|hJ<|gn<|gn<|gn<|gn<|gn<|so h▸EC 0 J (l,c,xs,l1,c1,xs1,r3.2,[]) J J
   ·refine dZ<|ax J<|bE h J (fun h=>?_) (fun h=>?_)
    ·refine Z<|T (jA Xn (.tail _ (.tail _ (.tail _ (.head _)))) (Y J))<|Q J<|ci h fun e2 q_e2 h=>T (cn Tryz.underlying86 zZ (.tail _ (.tail _ (.tail _ (.tail _ (.head _))))) (Y J) (Y J) q_e2)<|BB<|ci h fun st q_st h=>sD zZ J ah J q_e2 (so q_st) (Y J) hB<|g9 (li (so q_st)) 57 J<|IU (O' :=[ff rB 4 l1 c1 st,vb lp rec1 .busy none,bx rV 32 b4 (bw l c xs.length),ff cu 54 l c xs,bx rV 86 b3 (bw l1 c1 st.length),bx cI 33 b2 x1,bx ei 32 b1 x2,bx (rH hX [(1,bw (ix.h 0).1 (ix.h 0).2 r.rows.length),(2,bw (ix.h 1).1 (ix.h 1).2 r.width.length)]) 65 b r,gO ei 32 (ix.h 0).1 (ix.h 0).2 r.rows,gO cI 3 (ix.h 1).1 (ix.h 1).2 r.width]) (by rw [li (so q_st)])<|bB<|au<|T (jA gb (.tail _ (.tail _ (.head _))) (Y J))<|Q J<|T (aI (r:=cu) (ys:=[x.2]) (xs:=[.tmp 61]) eK cP J J J J J ⟨(Y J),O⟩)<|oj<|ci h fun l2 q_l2 h=>bW cP J J J J eK J J (Y J) (Y J) q_l2 fun l3 c2=>oj<|dA gb J ah J (Y J) (Uz (Y J))<|aY<|ay ?_;exact gn<|gn<|gn<|gn<|gn<|Ux<|gn<|K9<|K9<|gn<|so h▸zC (l3,c2,l2,l1,c1,st,x1,x2) J J
    ·exact bc<|ay<|so h▸zC (l,c,xs,l1,c1,xs1,x1,x2) J J
  ·skip
   obtain⟨l4,c3,xs2,l5,c4,xs3,x3,x4⟩:=i1
   obtain rfl:xs2=r1.1.2.1:=congrArg (fun q:List (List ac)×List Bool×Int×(List (List ac))=>q.1) hi
   obtain rfl:xs3=r1.1.2.2.1:=congrArg (fun q:List (List ac)×List Bool×Int×(List (List ac))=>q.2.1) hi
   obtain rfl:x3=r1.1.2.2.2.1:=congrArg (fun q:List (List ac)×List Bool×Int×(List (List ac))=>q.2.2.1) hi
   obtain rfl:x4=r1.1.2.2.2.2:=congrArg (fun q:List (List ac)×List Bool×Int×(List (List ac))=>q.2.2.2) hi
   have h:=ct h (by rw [hj];rfl);refine(show AT _ _ _ [E9 bd,bx rV 32 b4 (bw l4 c3 r1.1.2.1.length),ff cu 54 l4 c3 r1.1.2.1,bx rV 86 b3 (bw l5 c4 r1.1.2.2.1.length),ff rB 4 l5 c4 r1.1.2.2.1,bx cI 33 b2 r1.1.2.2.2.1,bx ei 32 b1 r1.1.2.2.2.2,bx (rH hX [(1,bw (ix.h 0).1 (ix.h 0).2 r.rows.length),(2,bw (ix.h 1).1 (ix.h 1).2 r.width.length)]) 65 b r,gO ei 32 (ix.h 0).1 (ix.h 0).2 r.rows,gO cI 3 (ix.h 1).1 (ix.h 1).2 r.width] _ from ?_);refine ce (G' :=[(0,tV (ba b 0)),(1,tD aW n),(3,bF aW n),(4,tV (ba b1 0)),(5,tV (ba b2 0)),(6,cr (cu) e),(7,cr (cu) e1),(8,tV (ba b3 0)),(9,tV (ba b4 0)),(16,tV (ba b 0)),(17,tV (ba b 0)),(18,tV (ba b 1)),(19,tO ei (ix.h 0).1 (ix.h 0).2 r.rows),(20,bF cI n.A),(21,bD n.A),(22,bF ei e),(23,cr (cu) e),(24,tV (ba b 0)),(25,tV (ba b 0)),(26,tV (ba b 1)),(27,tO ei (ix.h 0).1 (ix.h 0).2 r.rows),(28,bF cI n.B),(29,bD n.B),(30,bF ei e1),(31,cr (cu) e1),(32,cr (cu) e),(33,kP e),(34,cr (cu) e1),(35,kP e1),(36,bD (IntKind.i64.wrap ((e.length:Int)*(e1.length:Int)))),(37,gM (decide ((40000:Int)<(IntKind.i64.wrap ((e.length:Int)*(e1.length:Int)))))),(38,cr (cu) e),(39,kP e),(41,cr (cu) e),(42,cr (cu) e1)]) ?_ ⟨J,J,J,J,J,J,J,J,J,J,J,J,J,J,J,J,J,J,J,J,J,J,J,J,J,J,J,J,J,J,J,J,J,J,J,O⟩;refine ay<|ap<|aE<|Q J<|ck eK J<|T (cv hI)<|bB<|am<|aZ (k:=64) J fun hN=>bA<|BC<|BC<|BC<|om<|KT<|KU<|KU<|KT<|Ul<|BC ?_;refine aD (iR (aF:=fun ls i2 out l6 c5=>(e.drop i2=ls)/\jr r n r1 ls i2 out=some R) (Of:=fun _ i2 out l6 c5=>[bx ei 32 b1 r1.1.2.2.2.2,bx cI 33 b2 r1.1.2.2.2.1,bx rV 86 b3 (bw l5 c4 r1.1.2.2.1.length),bx rV 32 b4 (bw l6 c5 out.length),ff cu 54 l6 c5 out,ff rB 4 l5 c4 r1.1.2.2.1,E9 bd,bx (rH hX [(1,bw (ix.h 0).1 (ix.h 0).2 r.rows.length),(2,bw (ix.h 1).1 (ix.h 1).2 r.width.length)]) 65 b r,gO ei 32 (ix.h 0).1 (ix.h 0).2 r.rows,gO cI 3 (ix.h 1).1 (ix.h 1).2 r.width]) (Gf:=fun _ i2 out l6 c5=>[(0,tV (ba b 0)),(3,bF aW n),(4,tV (ba b1 0)),(5,tV (ba b2 0)),(8,tV (ba b3 0)),(9,tV (ba b4 0)),(64,cr (cu) e),(65,kP e),(66,bD (i2:Int))]) (fun i2 out l6 c5 h=>?_) (fun e3 tl ih i2 out l6 c5 h=>?_) e 0 r1.1.2.1 l4 c3 ⟨J,h⟩) (bf J)
   ·obtain⟨V,h⟩:=h
    refine eY V J<|ap<|Z<|T (jA gb (.tail _ (.tail _ (.tail _ (.head _)))) (Y J))<|BB<|gm<|dn 96 J<|bu<|dA gb J ah J (Y J) (km (Y J))<|gk<|dA PR J ah J (Y J) hI<|aY ?_;exact ap<|fD<|bK<|aB 4 J<|aB 5 J<|aG<|aG<|aG<|aG<|db<|db<|db<|db<|EB<|uY<|so h▸fS (ts:=[cr (cu) out,bD 0]) (rvs:=[.cell 4 32,.cell 5 33]) J J ⟨aT gb J J J,aT PR J J J,O⟩ sF J J
   ·obtain⟨V,h⟩:=h
    refine eX V J<|aA<|am<|ax J<|cW eK cP J (cD V)<|dC J<|aC J<|Z<|wV Il zl J ?_;refine bn zZ J<|Q J<|ci h fun t q_t h=>aw J (fun H=>jA Xn (.tail _ (.tail _ (.head _))) (Y J))<|aw J (cG J) ?_
    obtain⟨e4,h1t,h0t⟩:=og q_t
    have q_e4g:=fun M=>(h1t M).1
    refine aw J (fun H=>cn Tryz.underlying86 zZ (.tail _ (.tail _ (.tail _ (.tail _ (.tail _ (.head _)))))) (bG J H) (bG J H) (q_e4g H))<|aw J (fun H=>eE (r:=rB) (i:=(i2:Int)) (foff:=0) zZ J J bz J (.tail _ (.tail _ (.tail _ (.tail _ (.tail _ (.head _)))))) (q_e4g H) (bG J H))<|aw J (nI J)<|T (cQ (Y J) (fun M=>(bG J M)) (fun M=>(h1t M).2) h0t)<|bE h J (fun h=>?_) (fun h=>?_)
    ·refine ci h fun e5 q_e5 h=>ci h fun mk1 q_mk1 h=>ci h fun r4 q_r4 h=>?_
     refine lS 14 [tc (my l6 c5 out),tc (cr (ae) e3),tc (tV (ba b 0)),tc (tV (ba b 0)),tc (tV (ba b 2)),tc (tO cI (ix.h 1).1 (ix.h 1).2 r.width),tc (bF cI n.B),tc (bD n.B),tc (bF cI e5),tc (bD e5),([10],fun s=>tO ae ((s.getD 0 sF).h 0).1 ((s.getD 0 sF).h 0).2 mk1),tc (cr (cu) ([e3,mk1])),tc (cr (ae) r4),tc (cr (cu) ([r4]))] [false,false,false,false,false,false,false,false,false,false,true,false,false,false] [([],fun _=>[bx ei 32 b1 r1.1.2.2.2.2,bx cI 33 b2 r1.1.2.2.2.1,bx rV 86 b3 (bw l5 c4 r1.1.2.2.1.length),bx rV 32 b4 (bw l6 c5 out.length),ff cu 54 l6 c5 out,ff rB 4 l5 c4 r1.1.2.2.1,E9 bd,bx (rH hX [(1,bw (ix.h 0).1 (ix.h 0).2 r.rows.length),(2,bw (ix.h 1).1 (ix.h 1).2 r.width.length)]) 65 b r,gO ei 32 (ix.h 0).1 (ix.h 0).2 r.rows,gO cI 3 (ix.h 1).1 (ix.h 1).2 r.width]),([10],fun sg=>[gO ae 57 ((sg 10).h 0).1 ((sg 10).h 0).2 mk1,bx ei 32 b1 r1.1.2.2.2.2,bx cI 33 b2 r1.1.2.2.2.1,bx rV 86 b3 (bw l5 c4 r1.1.2.2.1.length),bx rV 32 b4 (bw l6 c5 out.length),ff cu 54 l6 c5 out,ff rB 4 l5 c4 r1.1.2.2.1,E9 bd,bx (rH hX [(1,bw (ix.h 0).1 (ix.h 0).2 r.rows.length),(2,bw (ix.h 1).1 (ix.h 1).2 r.width.length)]) 65 b r,gO ei 32 (ix.h 0).1 (ix.h 0).2 r.rows,gO cI 3 (ix.h 1).1 (ix.h 1).2 r.width])] (fun _=>J) mixed J J J J
      ⟨⟨[⟨9,fun _=>tV (ba b4 0),none⟩],_,[[],[10]],J,⟨(fun _=>J),O⟩,J,J,J,J,J,⟨fun sg=>ai J (jA gb (.tail _ (.tail _ (.tail _ (.head _)))) (Y J)),fun sg=>ai J (jA gb (.tail _ (.tail _ (.tail _ (.tail _ (.head _))))) (Y J)),O⟩⟩,
      ⟨⟨[⟨15,fun _=>tD cu e3,none⟩],_,[[],[10]],J,⟨(fun _=>J),O⟩,J,J,J,J,J,⟨fun sg=>ai J (gL J),fun sg=>ai J (gL J),O⟩⟩,
      ⟨⟨[⟨0,fun _=>tV (ba b 0),none⟩],_,[[]],J,⟨(fun _=>J),O⟩,J,J,J,J,J,⟨fun sg=>ai J (gL J),O⟩⟩,
      ⟨⟨[⟨82,fun _=>tV (ba b 0),some 2⟩],_,[[]],J,⟨(fun _=>J),O⟩,J,J,J,J,J,⟨fun sg=>ai J (ee (Y J)),O⟩⟩,
      ⟨⟨[⟨83,fun _=>tV (ba b 0),some 3⟩],_,[[]],J,⟨(fun _=>J),O⟩,J,J,J,J,J,⟨fun sg=>ai J (tp 2 Mk J J J),O⟩⟩,
      ⟨⟨[⟨84,fun _=>tV (ba b 2),some 4⟩],_,[[]],J,⟨(fun _=>J),O⟩,J,J,J,J,J,⟨fun sg=>ai J (eD eQ J (.tail _ (.tail _ (.tail _ (.tail _ (.tail _ (.tail _ (.tail _ (.head _)))))))) (.tail _ (.tail _ (.tail _ (.tail _ (.tail _ (.tail _ (.tail _ (.tail _ (.tail _ (.head _)))))))))) (Y J)),O⟩⟩,
      ⟨⟨[⟨3,fun _=>bF aW n,none⟩],_,[[]],J,⟨(fun _=>J),O⟩,J,J,J,J,J,⟨fun sg=>ai J (ic mL fW J J),O⟩⟩,
      ⟨⟨[⟨86,fun _=>bF cI n.B,some 6⟩],_,[[]],J,⟨(fun _=>J),O⟩,J,J,J,J,J,⟨fun sg=>ai J (nE cj J J),O⟩⟩,
      ⟨⟨[⟨85,fun _=>tO cI (ix.h 1).1 (ix.h 1).2 r.width,some 5⟩,⟨87,fun _=>tD cI n.B,some 7⟩],_,[[]],J,⟨(fun _=>J),(fun _=>J),O⟩,J,J,J,J,J,⟨fun sg=>ai J (bm fz cj J (km (Y J)) (Y J) q_e5),O⟩⟩,
      ⟨⟨[⟨88,fun _=>bF cI e5,some 8⟩],_,[[]],J,⟨(fun _=>J),O⟩,J,J,J,J,J,⟨fun sg=>ai J (nE cj J J),O⟩⟩,
      ⟨⟨[⟨89,fun _=>tD cI e5,some 9⟩],_,[([],[10])],J,⟨(fun _=>J),O⟩,J,J,J,J,J,⟨fun sg=>dS J (T7 (r:=ae) (x:=vn) an J J J nD (fun _=>aL _) (Y J) (Y J) q_mk1),O⟩⟩,
      ⟨⟨[⟨81,fun _=>tD cu e3,some 1⟩,⟨90,fun sg=>tO ae ((sg 10).h 0).1 ((sg 10).h 0).2 mk1,some 10⟩],_,[[10]],J,⟨(fun _=>J),(fun _=>J),O⟩,J,J,J,J,J,⟨fun sg=>ai J (aI (r:=cu) (ys:=[e3,mk1]) (xs:=[.tmp 81,.tmp 90]) eK cP J J J J J ⟨(Y J),(km (Y J)),O⟩),O⟩⟩,
      ⟨⟨[⟨91,fun _=>tD ei ([e3,mk1]),some 11⟩],_,[[10]],J,⟨(fun _=>J),O⟩,J,J,J,J,J,⟨fun sg=>ai J (bo aec (acd _ q_r4) ⟨(Y J),O⟩),O⟩⟩,
      ⟨⟨[⟨92,fun _=>tD cu r4,some 12⟩],_,[[10]],J,⟨(fun _=>J),O⟩,J,J,J,J,J,⟨fun sg=>ai J (aI (r:=cu) (ys:=[r4]) (xs:=[.tmp 92]) eK cP J J J J J ⟨(Y J),O⟩),O⟩⟩,
      O⟩⟩⟩⟩⟩⟩⟩⟩⟩⟩⟩⟩⟩⟩ (fun sg=>?_)
     refine(show RG _ _ _ _ [_,_,_,_,_,_,_,_,_,_,_] _ from ?_);refine KP<|ci h fun l7 q_l7 h=>bW cP J J J J eK J J (Y J) (Y J) q_l7 fun l8 c6=>KP<|dA gb J ah J (Y J) (Uz (Y J))<|aY<|dR V hN J<|aP<|aG<|gn<|gn<|gn<|gn<|gn<|yG<|yG<|gn<|gn<|gn ?_;exact aR (aD (ih (i2+1) l7 l8 c6 ⟨cH V,h⟩) (bf J))
    ·refine bc<|dR V hN J ?_;exact aR (aD (ih (i2+1) out l6 c5 ⟨cH V,h⟩) (bf J))
  ·skip
   obtain⟨l9,c7,xs4,l10,c8,xs5,x5,x6⟩:=i1
   obtain rfl:xs4=r1.1.2.1:=congrArg (fun q:List (List ac)×List Bool×Int×(List (List ac))=>q.1) hi
   obtain rfl:xs5=r1.1.2.2.1:=congrArg (fun q:List (List ac)×List Bool×Int×(List (List ac))=>q.2.1) hi
   obtain rfl:x5=r1.1.2.2.2.1:=congrArg (fun q:List (List ac)×List Bool×Int×(List (List ac))=>q.2.2.1) hi
   obtain rfl:x6=r1.1.2.2.2.2:=congrArg (fun q:List (List ac)×List Bool×Int×(List (List ac))=>q.2.2.2) hi
   have h:=cf h (by rw [hj];rfl);refine(show CG _ _ _ [E9 bd,bx rV 32 b4 (bw l9 c7 r1.1.2.1.length),ff cu 54 l9 c7 r1.1.2.1,bx rV 86 b3 (bw l10 c8 r1.1.2.2.1.length),ff rB 4 l10 c8 r1.1.2.2.1,bx cI 33 b2 r1.1.2.2.2.1,bx ei 32 b1 r1.1.2.2.2.2,bx (rH hX [(1,bw (ix.h 0).1 (ix.h 0).2 r.rows.length),(2,bw (ix.h 1).1 (ix.h 1).2 r.width.length)]) 65 b r,gO ei 32 (ix.h 0).1 (ix.h 0).2 r.rows,gO cI 3 (ix.h 1).1 (ix.h 1).2 r.width] _ from ?_);refine I9 (G' :=[(0,tV (ba b 0)),(1,tD aW n),(3,bF aW n),(4,tV (ba b1 0)),(5,tV (ba b2 0)),(6,cr (cu) e),(7,cr (cu) e1),(8,tV (ba b3 0)),(9,tV (ba b4 0)),(16,tV (ba b 0)),(17,tV (ba b 0)),(18,tV (ba b 1)),(19,tO ei (ix.h 0).1 (ix.h 0).2 r.rows),(20,bF cI n.A),(21,bD n.A),(22,bF ei e),(23,cr (cu) e),(24,tV (ba b 0)),(25,tV (ba b 0)),(26,tV (ba b 1)),(27,tO ei (ix.h 0).1 (ix.h 0).2 r.rows),(28,bF cI n.B),(29,bD n.B),(30,bF ei e1),(31,cr (cu) e1),(32,cr (cu) e),(33,kP e),(34,cr (cu) e1),(35,kP e1),(36,bD (IntKind.i64.wrap ((e.length:Int)*(e1.length:Int)))),(37,gM (decide ((40000:Int)<(IntKind.i64.wrap ((e.length:Int)*(e1.length:Int)))))),(38,cr (cu) e),(39,kP e),(41,cr (cu) e),(42,cr (cu) e1)]) ?_ ⟨J,J,J,J,J,J,J,J,J,J,J,J,J,J,J,J,J,J,J,J,J,J,J,J,J,J,J,J,J,J,J,J,J,J,J,O⟩;exact fD<|bT<|yG<|aB 4 J<|La<|aB 5 J<|bK<|aG<|bK<|aG<|bK<|aG<|bK<|aG<|db<|db<|db<|db<|EB<|uY<|so h▸fS (ts:=[cr (cu) r1.1.2.2.2.2,bD r1.1.2.2.2.1]) (rvs:=[.cell 4 32,.cell 5 33]) J J ⟨aT gb J J J,aT PR J J J,O⟩ sF J J

def adV(b:Nat)(ix:OI) r n{R}(h:lk r n=some R):ea aU 24 [tV (ba b 0),tD aW n] (lM b r ix) (fun _:OI=>tT [cr (cu) R.1,bD R.2]) (fun _=>(lM b r ix)):=by
 refine ea.of Tryz.func24 J J J fun w0 S0=>?_;refine(show CG _ _ _ [bx (rH hX [(1,bw (ix.h 0).1 (ix.h 0).2 r.rows.length),(2,bw (ix.h 1).1 (ix.h 1).2 r.width.length)]) 65 b r,gO ei 32 (ix.h 0).1 (ix.h 0).2 r.rows,gO cI 3 (ix.h 1).1 (ix.h 1).2 r.width] _ from ?_);refine Z<|bO J<|dO (cu)<|bh<|bB<|Z<|bQ false cu 54<|T (bp qa)<|bB<|aA<|aA<|ci h fun e q_e h=>?_
 refine iQ (ts:=[_,_,_,_,_,_,_,_,_,_]) mixed J J
  ⟨dc J J,
  ⟨cT 11 0 J J (ee (Y J)),
  ⟨cT 12 1 J J (tp 1 ub J J J),
  ⟨cT 13 2 J J (eD q6 J (.tail _ (.head _)) (.tail _ (.tail _ (.head _))) (Y J)),
  ⟨jH 3 J J (ic iO de J J),
  ⟨dh 4 cj J J,
  ⟨cM 14 3 16 5 J J J (bm lr gb J (km (Y J)) (Y J) q_e),
  ⟨dh 6 gb J J,
  ⟨cT 18 7 J J (UC eK J),
  ⟨PI J (cv hI),
  O⟩⟩⟩⟩⟩⟩⟩⟩⟩⟩ ?_
 refine ap<|am<|aZ (k:=18) J fun hN=>bA ?_;refine aD (iR (aF:=fun ls i out l c=>(e.drop i=ls)/\iy n ls out=some R) (Of:=fun _ i out l c=>[ff cu 54 l c out,bx (rH hX [(1,bw (ix.h 0).1 (ix.h 0).2 r.rows.length),(2,bw (ix.h 1).1 (ix.h 1).2 r.width.length)]) 65 b r,gO ei 32 (ix.h 0).1 (ix.h 0).2 r.rows,gO cI 3 (ix.h 1).1 (ix.h 1).2 r.width]) (Gf:=fun _ i out l c=>[(3,bF aW n),(6,my l c out),(18,cr (cu) e),(19,kP e),(20,bD (i:Int))]) (fun i out l c h=>?_) (fun e1 tl ih i out l c h=>?_) e 0 yN none 0 ⟨J,h⟩) (bf J)
 ·obtain⟨V,h⟩:=h
  refine eY V J<|ap<|ax J<|dC J<|cd<|dU<|bN 6 J<|bN 40 J ?_;exact bN 4 J<|dQ 4 J<|aG<|aP<|aP<|aP<|so h▸fS (ts:=[cr (cu) out,bD 0]) (rvs:=[.tmp 4,.tmp 5]) J J ⟨aN J,aN J,O⟩ sF J J
 ·obtain⟨V,h⟩:=h
  refine eX V J<|aA<|am<|Z<|cW eK cP J (cD V)<|aC J<|Z<|bg rZ kK jk J<|Q J ?_;refine bS h aed (VM _ _) (bj J) fun r1 h=>Q J<|bv J J<|bv J J<|dC J<|aC J<|aE<|Q J<|eN J<|bE h J (fun h=>?_) (fun h=>?_)
  ·exact ax J<|dO (cu)<|aM J<|af<|bT<|af<|bT<|aG<|aP<|aP<|aP<|so h▸fS (ts:=[cr (cu) ([]),bD r1.2]) (rvs:=[.tmp 4,.tmp 5]) J J ⟨aN J,aN J,O⟩ sF J J
  ·refine dZ<|ax J<|bE h J (fun h=>?_) (fun h=>?_)
   ·refine au<|Q J<|Q J<|T (aI (r:=cu) (ys:=[e1]) (xs:=[.tmp 36]) eK cP J J J J J ⟨(Y J),O⟩)<|ci h fun out1 q_out1 h=>bW cP J J J J eK J J (Y J) (Y J) q_out1 fun l1 c1=>dC J<|aY<|dR V hN J ?_;exact aR (aD (ih (i+1) out1 l1 c1 ⟨cH V,h⟩) (bf J))
   ·refine bc<|dR V hN J ?_;exact aR (aD (ih (i+1) out l c ⟨cH V,h⟩) (bf J))

end Go.Proofs.YtpgjgkdpeagjbaaGreatDoor

