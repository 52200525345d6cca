/- cE of this claim: P19. -/
import Derived.Test.YtdohlidddcgfjaaGreatFcT
import Derived.Test.YtdohlidddcgfjaaGreatFcP18
set_option linter.all false
namespace Go.Proofs.YtdohlidddcgfjaaGreat
open Go
set_option maxRecDepth 100000

def XP p{R}(h:sK p=some R):cX bd 20 [tD gq p] (tT [em ((rI .u8)) R.1,bH R.2]):=by
 refine dK Tryz.func20 J<|d<|dl J<|fO ((rI .u8))<|ca<|bu<|aS<|dH rD J<|eE h Yu (Me _) (cy J) fun r h=>s (fG (D J))<|bW h J (fun h=>?_) (fun h=>?_)
 ·exact d<|fO ((rI .u8))<|eg<|af<|so h▸cg J J J
 ·refine fN<|d<|s (ee (r:=rH dc [(0,.slice none 0 0)]) (y:=Oi) Zg ZJ (zH Gm ⟨J,aZ⟩) (J))<|qV (D J) J fun b=>ci true (rI .u8) 5 ?_;refine(show RG _ _ _ _ [_,_] _ from ?_);refine aN J<|ax J<|dH rD J<|bR h fun r1 q_r1 h=>br (EffOK.fr1 (aE (xs:=[.tmp 10,.tmp 11]) (ts:=[M (Z b 0),tD gq p]) (fW b Oi SV) _ J aaa (VL b SV Oi _ q_r1) ⟨(D J),(D J),aZ⟩ (fun _=>J))) J fun i=>?_;refine(show RG _ _ _ _ [_,_] ((12,tT [])::_)from ?_);exact bu<|ax J<|s (aO (D J))<|bh 0 pc J<|s (nE qF J (.head _) (.tail _ (.head _)) (D J))<|d6 J<|eg<|am<|eW 2 J<|aV<|aV<|so h▸cg J J J

def VJ b{R}(h:uB b=some R):bK bd 97 [em ((rI .u8)) b] [] (fun i:OI=>M (Z (i.h 0).2 0)) (fun i=>[bx dy 183 (i.h 0).2 R]):=by
 refine bK.of Tryz.func97 J J J fun w0 S0=>d<|s (bU (hV (v:= .pointer none)))<|bu<|ax J<|bI kG J<|bR h fun mk q_mk h=>br (R9 (r:=(rI .u8)) (x:=(0:Int)) me J J J kG (fun _=>J) (D J) (D J) q_mk) J fun i=>s (ee (r:=rH rf []) (y:=vn (⟨S3,mk⟩:an) (ay (i.h 0).1 (i.h 0).2 mk.length)) Zi ZL (zH I8 trivial) (⟨_,_,_,_,_,J,GE FU J J,J,(hW (D J) JY),J⟩))<|qV (D J) J fun b1=>aN J<|ax J<|s (aO (D J))<|bh 2 Dy J<|s (nF qF (fF F8) (.head _) J (D J))<|Q J ?_;refine bR h fun cp q_cp h=>br (EffOK.fr1 (Pt J kG (HK me) (D J) (D J) (so q_cp))) J fun i1=>?_;refine(show RG _ _ _ _ [_,_] ((14,bH ((min b.length mk.length:Nat):Int))::_)from ?_);exact Ft (O' :=[db (rI .u8) 5 (i.h 0).1 (i.h 0).2 cp,bx (rH rf []) 183 b1 (vn (⟨S3,mk⟩:an) (ay (i.h 0).1 (i.h 0).2 cp.length))]) (by rw [Sc (so q_cp)])<|bu<|ax J<|bf J<|dq<|am<|vW (r' :=rH iW []) (x' :=({(⟨S3,mk⟩:an)with own:=cp}:an)) (fun _ _ _ ho h=>SN h (fun h=>CA (qk ho (.head _)) h))<|am<|aV<|so h▸cj J (sj [(none,b1)]) J J (fun _ _ h=>h)

def ZZ b{R}(h:w7 b=some R):bK bd 43 [em ((rI .u8)) b] [] (fun i:OI=>M (Z (i.h 0).2 0)) (fun i=>[bx (rH aw [(0,Z (i.h 1).2 0)]) 146 (i.h 0).2 R.1,bx dy 183 (i.h 1).2 R.2]):=by
 refine bK.of Tryz.func43 J J J fun w0 S0=>d<|s (bU (hV (v:= .pointer none)))<|bu<|ax J<|bR h fun r q_r h=>br (aE (xs:=[.tmp 3]) (ts:=[em ((rI .u8)) b]) [] _ J Z6 (VJ _ q_r) ⟨(D J),aZ⟩ (fun _=>J)) J fun i=>?_;refine(show RG _ _ _ _ [_] ((4,M (Z (i.h 0).2 0))::_)from ?_);exact Q J<|s (ee (r:=rH s7 []) (y:=ym (⟨SW,b,false⟩:be) (Z (i.h 0).2 0)) Zk ZN (zH I7 trivial) (⟨_,_,_,_,_,J,GE FT J J,J,(hW (D J) J),⟨_,_,_,_,_,J,GE FS J J,J,(D J),J⟩⟩))<|qV (D J) J fun b1=>SD (r' :=rH aw [(0,Z (i.h 0).2 0)]) (x' :=(⟨SW,b,false⟩:be)) (fun _ _ _ _ h=>Z4 h.1)<|bf J<|am<|am<|so h▸cj J (sj [(none,b1),(none,(i.h 0).2)]) J J (fun _ _ h=>h)

def XO(b:Nat) x c{R}(h:sk x c=some R):bK bd 215 [tD (rI .u8) c,M (Z b 0)] [bx lA 26 b x] (fun i:OI=>tT []) (fun i=>[bx lA 26 b R]):=by
 exact bK.of Tryz.func215 J J J fun w0 S0=>aj<|s (aL qf J J bC (.head _) (D J))<|s (WK (D J) hI (by decide))<|Q J<|s (c0 nV vF (D J))<|s (cW (D J) (D J))<|bO qf aB J<|aJ<|so h▸fE J (oi none 0) J J

def E8(b:Nat) r{R}(h:iu r=some R):bK bd 102 [M (Z b 0)] [bx dy 183 b r] (fun i:OI=>bH R) (fun i=>[bx dy 183 b r]):=by
 refine bK.of Tryz.func102 J J J fun w0 S0=>d<|ca<|bu<|aS<|Q J<|s (Dw Tryz.underlying143 (D J))<|bW h J (fun h=>?_) (fun h=>?_)
 ·exact d<|eg<|af<|so h▸cj J ml J J (fun _ _ h=>h)
 ·refine fN<|aP ?_
  refine gO (ts:=[_,_,_,_,_,_,_,_,_,_,_,_]) mixed J J
   ⟨fP J J,
   ⟨ff 5 0 J J (aO (D J)),
   ⟨ff 6 1 J J (q9 2 Dy J J J),
   ⟨ff 7 2 J J (aL (r:=rH iW []) (x:=r) qF J J (fF yv) (.head _) (D J)),
   ⟨ff 8 3 J J (ST kG J),
   ⟨fP J J,
   ⟨ff 10 5 J J (aO (D J)),
   ⟨ff 11 6 J J (q9 0 pp J J J),
   ⟨ff 12 7 J J (q9 0 xc J J J),
   ⟨ff 13 8 J J (aL (r:=rH iW []) (x:=r) bB J J (fF (fq iv uH)) (.head _) (D J)),
   ⟨ga 9 4 14 9 J J J (dP (D J) (D J)),
   ⟨ff 15 10 J J (DX J),
   aZ⟩⟩⟩⟩⟩⟩⟩⟩⟩⟩⟩⟩ ?_
  exact au<|pd<|so h▸cj J ml J J (fun _ _ h=>h)

def Mi(b:Nat)(b1:Nat) r n x{R}(h:o9 r n x=some R):bK bd 214 [M (Z b 0),bH n,tC 215 [M (Z b1 0)]] [bx dy 183 b r,bx lA 26 b1 x] (fun i:OI=>tT []) (fun i=>[bx dy 183 b R.1,bx lA 26 b1 R.2]):=by
 refine bK.of Tryz.func214 J J J fun w0 S0=>aS<|Q J<|s (Dw Tryz.underlying143 (D J))<|Q J<|iK J J J J<|Q J<|iK J J J J<|s (aO (D J))<|iK J J J J<|bh 0 pp J<|iK J J J J<|bh 1 xb J<|iK J J J J<|s (aL (r:=rH iW []) (x:=r) B7 J J (fF (fq iv Aq)) (.head _) (D J))<|iK J J J J<|nP J<|s (sF (D J) J (D J))<|bW h J (fun h=>?_) (fun h=>?_)
 ·exact pd<|af<|am<|am<|so h▸rZ J ml J J
 ·refine fN<|aS<|Q J<|s (fH (D J) hI)<|bW h J (fun h=>?_) (fun h=>?_)
  ·refine ax J<|s (aO (D J))<|bh 0 pp J<|bh 1 xb J<|fK (dF B7 J (pC (hs' :=[]) (t8 iv re wM) trivial J) J (D J) hI) fun i=>?_;refine(show RG _ _ _ _ [_,_] _ from ?_);exact bM<|af<|am<|am<|so h▸rZ J ml J J
  ·refine fN<|aS<|Q J<|bR h fun r1 q_r1 h=>br (aE (xs:=[.tmp 22]) (ts:=[M (Z b 0)]) [bx dy 183 b r] _ J KI (E8 _ _ q_r1) ⟨(D J),aZ⟩ (fun _=>J)) J fun i1=>?_;refine(show RG _ _ _ _ [_,_] ((23,bH r1)::_)from ?_);refine Q J<|jC J<|bW h J (fun h=>?_) (fun h=>?_)
   ·refine ax J<|s (aO (D J))<|bh 0 pp J<|bh 1 xb J<|fK (dF B7 J (pC (hs' :=[]) (t8 iv re wM) trivial J) J (D J) hI) fun i2=>?_;refine(show RG _ _ _ _ [_,_] _ from ?_);exact bM<|af<|am<|am<|so h▸rZ J ml J J
   ·refine fN<|ax J<|s (bT hI)<|bu<|ak<|bA<|dY ?_;refine aH (Oc (aa:=fun n1 x1 x2 ob=>gw n n1 x1 x2 ob=some R) (Of:=fun x1 x2 ob=>[bx lA 26 b1 x2,bx dy 183 b ob]) (Gf:=fun x1 x2 ob=>[(0,M (Z b 0)),(2,tC 215 [M (Z b1 0)]),(30,bH n),(31,bH x1),(0,M (Z b 0))]) (fun x1 x2 ob h=>nn h) (fun n1 ih x1 x2 ob h=>?_) dk (0:Int) x r h) (aX J);refine cJ<|d<|jC J<|bu<|aP<|fy h J (fun h=>?_) (fun h=>?_)
    ·refine fN<|aP<|ak<|aP<|bR h fun e q_e h=>?_
     refine qN 12 (ts:=[tC 215 [M (Z b1 0)],M (Z b 0),M (Z b 0),M (Z b 2),em ((rI .u8)) ob.own,M (Z b 0),M (Z b 0),M (Z b 0),M (Z b 0),bH ob.place.at_,ck (rI .u8) e,tD (rI .u8) e]) mixed J J J
      ⟨fP J J,
      ⟨fP J J,
      ⟨ff 34 1 J J (aO (D J)),
      ⟨ff 35 2 J J (q9 2 Dy J J J),
      ⟨ff 36 3 J J (aL (r:=rH iW []) (x:=ob) qF J J (fF yv) (.tail _ (.head _)) (D J)),
      ⟨fP J J,
      ⟨ff 38 5 J J (aO (D J)),
      ⟨ff 39 6 J J (q9 0 pp J J J),
      ⟨ff 40 7 J J (q9 0 xc J J J),
      ⟨ff 41 8 J J (aL (r:=rH iW []) (x:=ob) bB J J (fF (fq iv uH)) (.tail _ (.head _)) (D J)),
      ⟨ga 37 4 42 9 J J J (B3 kG me J J J q_e),
      ⟨lK 10 me J J,
      aZ⟩⟩⟩⟩⟩⟩⟩⟩⟩⟩⟩⟩ ?_
     refine bR h fun r2 q_r2 h=>br (ue (xs:=[.tmp 44]) (ts:=[tD (rI .u8) e]) (cts:=[M (Z b1 0)]) (post:=fun i=>[bx lA 26 b1 r2,bx dy 183 b ob]) [bx lA 26 b1 x2] [bx dy 183 b ob] J aaO (XO b1 _ _ q_r2) (D J) ⟨(D J),aZ⟩ (fun _=>J)) J fun i3=>?_;refine(show RG _ _ _ _ [_,_] _ from ?_);refine bu<|aj<|Q J<|s (aO (D J))<|bh 0 pp J<|bh 0 xc J<|s (aL (r:=rH iW []) (x:=ob) bB J J (fF (fq iv uH)) (.tail _ (.head _)) (D J))<|s (cW (D J) hI)<|s (aO (D J))<|bh 0 pp J<|bh 0 xc J<|fK (EffOK.fr1 (dF bB J (pC (hs' :=[]) (t8 iv re Ef) trivial J) J (D J) (D J))) fun i4=>?_;refine(show RG _ _ _ _ [_,_] _ from ?_);refine aJ<|al<|au<|aj<|s (cW (D J) hI)<|Q J<|aJ<|am ?_;exact aU (aH (ih (IntKind.i64.wrap (x1+(1:Int))) r2 ({ob with place:=({ob.place with at_:=(IntKind.i64.wrap (ob.place.at_+(1:Int)))}:na)}:an) h) (aX J))
    ·exact cQ<|ap<|ap<|bL<|am<|so h▸fE J ml J J

def IA(b:Nat) r n{R}(h:cL r n=some R):bK bd 181 [M (Z b 0),bH n] [bx dy 183 b r] (fun i:OI=>tD lA R.1) (fun i=>[bx dy 183 b R.2]):=by
 refine bK.of Tryz.func181 J J J fun w0 S0=>d<|bz (r:=lA) (x:=(0:Int)) qf (fun _=>J) J fun b1=>bu<|ax J<|Q J<|s (wk (cts:=[M (Z b1 0)]) (caps:=[.tmp 4]) ⟨(D J),aZ⟩)<|bR h fun r1 q_r1 h=>br (EffOK.fr1 (aE (xs:=[.tmp 5,.tmp 6,.tmp 7]) (ts:=[M (Z b 0),bH n,tC 215 [M (Z b1 0)]]) [bx dy 183 b r,bx lA 26 b1 (0:Int)] _ J VV (Mi _ _ _ _ _ q_r1) ⟨(D J),(D J),(D J),aZ⟩ (fun _=>J))) J fun i=>?_;refine(show RG _ _ _ _ [_,_] ((8,tT [])::_)from ?_);exact bu<|d<|s (aL (x:=r1.2) qf J J bC (.tail _ (.head _)) (D J))<|bY<|bO qf aB J<|bM<|iT 4 J<|so h▸fV J qf J J J ml J J

def E7(b:Nat) r{R}(h:cY r=some R):bK bd 136 [M (Z b 0)] [bx dy 183 b r] (fun i:OI=>tD (rI .u8) R.1) (fun i=>[bx dy 183 b R.2]):=by
 refine bK.of Tryz.func136 J J J fun w0 S0=>d<|ca<|bu<|ax J<|bR h fun r1 q_r1 h=>br (aE (xs:=[.tmp 3,.const (.int .i64 (1))]) (ts:=[M (Z b 0),bH 1]) [bx dy 183 b r] _ J NR (IA _ _ _ q_r1) ⟨(D J),hI,aZ⟩ (fun _=>J)) J fun i=>?_;refine(show RG _ _ _ _ [_] ((4,tD lA r1.1)::_)from ?_);exact s (c0 vF nV (D J))<|bf J<|so h▸cj J ml J J (fun _ _ h=>h)

def th(b:Nat)(b1:Nat) r in1{R}(h:bS r in1=some R):bK bd 99 [M (Z b 0)] [bx (rH aw [(0,Z b1 0)]) 146 b r,bx dy 183 b1 in1] (fun i:OI=>bH R.1) (fun i=>[bx (rH aw [(0,Z b1 0)]) 146 b r,bx dy 183 b1 R.2]):=by
 refine bK.of Tryz.func99 J J J fun w0 S0=>d<|ca<|bu<|ax J<|s (aO (D J))<|bh 0 vv J<|s (eQ ra J (.head _) (D J))<|bR h fun r1 q_r1 h=>br (EffOK.fr1 (aE (xs:=[.tmp 6]) (ts:=[M (Z b1 0)]) [bx dy 183 b1 in1] _ J KH (E7 _ _ q_r1) ⟨(D J),aZ⟩ (fun _=>J))) J fun i=>?_;refine(show RG _ _ _ _ [_,_] ((7,tD (rI .u8) r1.1)::_)from ?_);exact s (c0 nV iL (D J))<|bf J<|am<|so h▸cj J ml J J (fun _ _ h=>h)

def E6(b:Nat) r{R}(h:iX r=some R):bK bd 141 [M (Z b 0)] [bx dy 183 b r] (fun i:OI=>bH R) (fun i=>[bx dy 183 b r]):=by
 refine bK.of Tryz.func141 J J J fun w0 S0=>d<|ca<|bu<|aS<|Q J<|s (Dw Tryz.underlying143 (D J))<|bW h J (fun h=>?_) (fun h=>?_)
 ·exact d<|eg<|af<|so h▸cj J ml J J (fun _ _ h=>h)
 ·exact fN<|ax J<|s (aO (D J))<|bh 0 pp J<|bh 1 xb J<|s (aL (r:=rH iW []) (x:=r) B7 J J (fF (fq iv Aq)) (.head _) (D J))<|bf J<|so h▸cj J ml J J (fun _ _ h=>h)

def yE(b:Nat)(b1:Nat) r in1{R}(h:d8 r in1=some R):bK bd 101 [M (Z b 0)] [bx (rH aw [(0,Z b1 0)]) 146 b r,bx dy 183 b1 in1] (fun i:OI=>fM R) (fun i=>[bx (rH aw [(0,Z b1 0)]) 146 b r,bx dy 183 b1 in1]):=by
 refine bK.of Tryz.func101 J J J fun w0 S0=>d<|bm<|bu<|ax J<|s (aO (D J))<|bh 2 vu J<|s (aL (r:=rH aw [(0,Z b1 0)]) (x:=r) zF J J (fF vq) (.head _) (D J))<|s (fG (D J))<|Q J ?_;refine yM (!r.bad) (fun Y=>?_) (fun Y=>?_)
 ·have h:=ct h Y;refine iK J J J Y<|Q J<|iK J J J Y<|s (aO (D J))<|iK J J J Y<|bh 0 vv J<|iK J J J Y<|s (eQ ra J (.head _) (D J))<|iK J J J Y<|bR h fun r1 q_r1 h=>br (EffOK.fr1 (aE (xs:=[.tmp 12]) (ts:=[M (Z b1 0)]) [bx dy 183 b1 in1] _ J KG (E6 _ _ q_r1) ⟨(D J),aZ⟩ (fun _=>J))) J fun i=>?_;refine(show RG _ _ _ _ [_,_] ((13,bH r1)::_)from ?_);exact iK J J J Y<|bp J<|s (ub (D J) Y (D J))<|bf J<|am<|so h▸cj J ml J J (fun _ _ h=>h)
 ·have h:=cf h Y;exact fa J J J Y J<|fa J J J Y J<|fa J J J Y J<|fa J J J Y J<|fa J J J Y J<|fa J J J Y J<|s (sF (D J) Y YL)<|bf J<|am<|am<|so h▸cj J ml J J (fun _ _ h=>h)

def Mm(b:Nat)(b1:Nat) r in1 n{R}(h:mR r in1 n=some R):bK bd 182 [M (Z b 0),bH n,Ju 99 [M (Z b 0)]] [bx (rH aw [(0,Z b1 0)]) 146 b r,bx dy 183 b1 in1] (fun i:OI=>jK R.1) (fun i=>[bx (rH aw [(0,Z b1 0)]) 146 b r,bx dy 183 b1 R.2]):=by
 refine bK.of Tryz.func182 J J J fun w0 S0=>d<|fO bV<|bu<|d<|ci false bV 3<|s (bU tE)<|bu<|aS<|Q J<|s (bT hI)<|bu ?_;refine Hu (aa:=fun out l c ob=>pU out ob=some R) (Of:=fun out l c ob=>[db bV 3 l c out,bx (rH aw [(0,Z b1 0)]) 146 b r,bx dy 183 b1 ob]) (Gf:=fun out l c ob=>[(7,nO l c out)]) (fun out l c ob h=>?_) (fun h2=>?_)
 ·skip
  exact au<|ax J<|bf J<|dq<|bP 7 J<|bP 20 J<|bP 6 J<|eW 6 J<|aV<|am<|am<|so h▸cj J ml J J (fun _ _ h=>h)
 ·skip
  refine bA ?_;refine aH (zj (aa:=fun n1 out1 l1 c1 x ob1=>iZ r n n1 out1 x ob1=some R) (Of:=fun out1 l1 c1 x ob1=>[db bV 3 l1 c1 out1,bx (rH aw [(0,Z b1 0)]) 146 b r,bx dy 183 b1 ob1]) (Gf:=fun out1 l1 c1 x ob1=>[(0,M (Z b 0)),(2,Ju 99 [M (Z b 0)]),(7,nO l1 c1 out1),(8,bH n),(9,bH x)]) (fun out1 l1 c1 x ob1 h=>nn h) (fun n1 ih out1 l1 c1 x ob1 h=>?_) dk pu none 0 (0:Int) in1 h) (aX J);refine cJ<|d<|jC J<|bu<|aP<|fy h J (fun h=>?_) (fun h=>?_)
  ·refine fN<|aP<|ak<|aS<|Q J<|bR h fun r1 q_r1 h=>br (EffOK.fr2 (EffOK.fr2 (aE (xs:=[.tmp 11]) (ts:=[M (Z b 0)]) [bx (rH aw [(0,Z b1 0)]) 146 b r,bx dy 183 b1 ob1] _ J C9 (yE _ _ _ _ q_r1) ⟨(D J),aZ⟩ (fun _=>J)))) J fun i=>?_;refine(show RG _ _ _ _ [_,_,_] ((12,fM r1)::_)from ?_);refine s (fG (D J))<|bW h J (fun h=>?_) (fun h=>?_)
   ·refine cQ<|ap<|cn J<|ap<|ap<|bL<|am<|am<|aT ?_;exact bE (h2 out1 l1 c1 ob1 h) (aX J)
   ·refine fN<|aj<|Q J<|Q J<|bR h fun r2 q_r2 h=>br (EffOK.fr1 (EffOK.fr1 (uL (xs:=[]) (fts:=[M (Z b 0)]) (ts:=[]) [bx (rH aw [(0,Z b1 0)]) 146 b r,bx dy 183 b1 ob1] _ J yH (th _ _ _ _ q_r2) (D J) trivial (fun _=>J)))) J fun i1=>?_;refine(show RG _ _ _ _ [_,_,_] ((16,bH r2.1)::_)from ?_);refine s (aI (r:=bV) (ys:=[r2.1]) (xs:=[.tmp 16]) df bB J J J J J ⟨(D J),aZ⟩)<|cZ<|bR h fun out2 q_out2 h=>bD bB J J J J df J J (D J) (D J) q_out2 fun l2 c2=>d6 J<|aJ<|al<|au<|aj<|s (cW (D J) hI)<|Q J<|aJ ?_;exact aU (aH (ih out2 l2 c2 (IntKind.i64.wrap (x+(1:Int))) r2.2 h) (aX J))
  ·refine cQ<|ap<|ap<|bL ?_;exact bE (h2 out1 l1 c1 ob1 h) (aX J)

def ID(b:Nat)(b1:Nat) r in1{R}(h:iY r in1=some R):bK bd 137 [M (Z b 0)] [bx (rH aw [(0,Z b1 0)]) 146 b r,bx dy 183 b1 in1] (fun i:OI=>jK R.1) (fun i=>[bx (rH aw [(0,Z b1 0)]) 146 b r,bx dy 183 b1 R.2]):=by
 refine bK.of Tryz.func137 J J J fun w0 S0=>d<|fO bV<|bu<|ax J<|Q J<|bR h fun r1 q_r1 h=>br (EffOK.fr1 (EffOK.fr1 (aE (xs:=[.tmp 4]) (ts:=[M (Z b 0)]) [bx (rH aw [(0,Z b1 0)]) 146 b r,bx dy 183 b1 in1] _ J yH (th _ _ _ _ q_r1) ⟨(D J),aZ⟩ (fun _=>J)))) J fun i=>?_;refine(show RG _ _ _ _ [_,_] ((5,bH r1.1)::_)from ?_);refine Q J<|s (wl (fts:=[M (Z b 0)]) (fst:=[.tmp 6]) ⟨(D J),aZ⟩)<|bR h fun r2 q_r2 h=>br (EffOK.fr1 (EffOK.fr1 (aE (xs:=[.tmp 3,.tmp 5,.tmp 7]) (ts:=[M (Z b 0),bH r1.1,Ju 99 [M (Z b 0)]]) [bx (rH aw [(0,Z b1 0)]) 146 b r,bx dy 183 b1 r1.2] _ J aa6 (Mm _ _ _ _ _ q_r2) ⟨(D J),(D J),(D J),aZ⟩ (fun _=>J)))) J fun i1=>?_;refine(show RG _ _ _ _ [_,_] ((8,jK r2.1)::_)from ?_);exact bf J<|am<|am<|so h▸cj J ml J J (fun _ _ h=>h)

def RW(b:Nat)(b1:Nat) r in1{R}(h:kR r in1=some R):bK bd 106 [M (Z b 0)] [bx (rH aw [(0,Z b1 0)]) 146 b r,bx dy 183 b1 in1] (fun i:OI=>fM R.1) (fun i=>[bx (rH aw [(0,Z b1 0)]) 146 b R.2.1,bx dy 183 b1 R.2.2]):=by
 refine bK.of Tryz.func106 J J J fun w0 S0=>d<|bm<|bu<|ax J<|s (aO (D J))<|bh 0 vv J<|s (eQ ra J (.head _) (D J))<|bR h fun r1 q_r1 h=>br (EffOK.fr1 (aE (xs:=[.tmp 7]) (ts:=[M (Z b1 0)]) [bx dy 183 b1 in1] _ J KH (E7 _ _ q_r1) ⟨(D J),aZ⟩ (fun _=>J))) J fun i=>?_;refine(show RG _ _ _ _ [_,_] ((8,tD (rI .u8) r1.1)::_)from ?_);refine aN J<|ax J<|Q J<|s (aO (D J))<|bh 2 vu J<|s (aL (r:=rH aw [(0,Z b1 0)]) (x:=r) zF J J (fF vq) (.tail _ (.head _)) (D J))<|Q J<|aD J (bX J)<|aD J (fun Y=>dD (bl J Y) hI)<|dG J<|s (aO (D J))<|bh 2 vu J<|fK (EffOK.fr1 (dF zF J (pC (hs' :=[(0,Z b1 0)]) u7 ⟨.inr ⟨J,J⟩,aZ⟩ J) J (D J) (D J))) fun i1=>?_;refine(show RG _ _ _ _ [_,_] _ from ?_);exact bu<|ax J<|bp J<|bf J<|am<|am<|so h▸cj J ml J J (fun _ _ h=>h)

def X9(b:Nat) r{R}(h:ql r=some R):bK bd 144 [M (Z b 0)] [bx dy 183 b r] (fun i:OI=>tD qc R.1) (fun i=>[bx dy 183 b R.2]):=by
 refine bK.of Tryz.func144 J J J fun w0 S0=>d<|ca<|bu<|ax J<|bR h fun r1 q_r1 h=>br (aE (xs:=[.tmp 3,.const (.int .i64 (4))]) (ts:=[M (Z b 0),bH 4]) [bx dy 183 b r] _ J NR (IA _ _ _ q_r1) ⟨(D J),hI,aZ⟩ (fun _=>J)) J fun i=>?_;refine(show RG _ _ _ _ [_] ((4,tD lA r1.1)::_)from ?_);exact s (c0 vF Gj (D J))<|bf J<|so h▸cj J ml J J (fun _ _ h=>h)

def XN(b:Nat) r{R}(h:lE r=some R):bK bd 216 [M (Z b 0)] [bx dy 183 b r] (fun i:OI=>tD Jb R.1) (fun i=>[bx dy 183 b R.2]):=by
 refine bK.of Tryz.func216 J J J fun w0 S0=>d<|ca<|bu<|ax J<|bR h fun r1 q_r1 h=>br (aE (xs:=[.tmp 3,.const (.int .i64 (2))]) (ts:=[M (Z b 0),bH 2]) [bx dy 183 b r] _ J NR (IA _ _ _ q_r1) ⟨(D J),hI,aZ⟩ (fun _=>J)) J fun i=>?_;refine(show RG _ _ _ _ [_] ((4,tD lA r1.1)::_)from ?_);exact s (c0 vF I4 (D J))<|bf J<|so h▸cj J ml J J (fun _ _ h=>h)

def RM(b:Nat)(l:Option Nat)(c:Nat) t{R}(h:ox t=some R):bK bd 221 [M (Z b 0)] [bx rV 186 b (ay l c t.length),db bV 3 l c t] (fun i:OI=>bH R.1) (fun i=>[bx rV 186 b (ay (i.h 0).1 (i.h 0).2 R.2.length),db bV 3 (i.h 0).1 (i.h 0).2 R.2]):=by
 refine bK.of Tryz.func221 J J J fun w0 S0=>d<|ca<|bu<|ax J<|s (aO (D J))<|s (qL Gu (.head _) (D J))<|aN J<|aS<|Q J<|s (ir DN (.tail _ (.head _)) (D J))<|bp J<|bW h J (fun h=>?_) (fun h=>?_)
 ·exact d<|eg<|af<|am<|am<|so h▸cj J (sj [(l,c)]) J J (fun _ _ h=>h)
 ·refine fN<|ax J<|Q J<|s (ir DN (.tail _ (.head _)) (D J))<|s (dP (D J) hI)<|bR h fun e q_e h=>s (eH DN bB (.tail _ (.head _)) (D J) (D J) q_e)<|s (jP (r:=bV) (i:=(IntKind.i64.wrap ((t.length:Int)-(1:Int)))) (foff:=0) bB J J bC J (.tail _ (.head _)) q_e (D J))<|aN J<|ax J<|Q J<|Q J<|s (ir DN (.tail _ (.head _)) (D J))<|s (dP (D J) hI)<|bR h fun y q_y h=>s (pO DN bB J (.tail _ (.head _)) (D J) (D J) q_y)<|s (aO (D J)) ?_;exact bY<|Fs q_y<|bY<|ek Gu J aB J (D J) (FI (D J))<|bu<|ax J<|bf J<|am<|am<|so h▸cj J (sj [(l,c)]) J J (fun _ _ h=>h)

def uJ(b:Nat)(b1:Nat)(b2:Nat)(l:Option Nat)(c:Nat) r in1 t n at1{R}(h:cU r in1 t n at1=some R):bK bd 189 [M (Z b 0),M (Z b2 0),bH n,bH at1] [bx (rH aw [(0,Z b1 0)]) 146 b r,bx dy 183 b1 in1,bx rV 186 b2 (ay l c t.length),db bV 3 l c t] (fun i:OI=>tT [bH R.1,bH R.2.1]) (fun i=>[bx (rH aw [(0,Z b1 0)]) 146 b R.2.2.1,bx dy 183 b1 in1,bx rV 186 b2 (ay (i.h 0).1 (i.h 0).2 R.2.2.2.length),db bV 3 (i.h 0).1 (i.h 0).2 R.2.2.2]):=by
 refine bK.of Tryz.func189 J J J fun w0 S0=>d<|ca<|ca<|bu<|d<|ca<|ca<|bu ?_;refine Hs (aa:=fun b3 x l1 c1 ob=>mh n at1 b3 x ob=some R) (Of:=fun b3 x l1 c1 ob=>[bx rV 186 b2 (ay l1 c1 x.length),db bV 3 l1 c1 x,bx (rH aw [(0,Z b1 0)]) 146 b ob,bx dy 183 b1 in1]) (Gf:=fun b3 x l1 c1 ob=>[(0,M (Z b 0)),(1,M (Z b2 0)),(2,bH n),(3,bH at1),(10,bH (-1)),(11,bH b3)]) (fun b3 x l1 c1 ob h=>?_) (fun h2=>?_)
 ·skip
  refine Hs (aa:=fun a1 x1 l2 c2 ob1=>jQ at1 b3 a1 x1 ob1=some R) (Of:=fun a1 x1 l2 c2 ob1=>[bx rV 186 b2 (ay l2 c2 x1.length),db bV 3 l2 c2 x1,bx (rH aw [(0,Z b1 0)]) 146 b ob1,bx dy 183 b1 in1]) (Gf:=fun a1 x1 l2 c2 ob1=>[(1,M (Z b2 0)),(3,bH at1),(10,bH a1),(11,bH b3)]) (fun a1 x1 l2 c2 ob1 h=>?_) (fun K1=>?_)
  ·skip
   refine ax J<|Q J<|s (aO (D J))<|s (qL Gu (.head _) (D J))<|Q J<|s (aI (r:=bV) (ys:=[at1]) (xs:=[.tmp 46]) DN bB J J J J J ⟨(D J),aZ⟩)<|bY<|bR h fun l3 q_l3 h=>bD bB J J J J DN J J (D J) (D J) q_l3 fun l4 c3=>s (aO (D J))<|bY<|ek Gu J aB J (D J) (FI (D J))<|bu<|ax J<|Q J<|d6 J<|aN J ?_;exact pd<|am<|am<|ba<|ba<|so h▸wC (ts:=[bH a1,bH b3]) (rvs:=[.tmp 8,.tmp 9]) J J ⟨ni J,ni J,aZ⟩ (sj [(l4,c3)]) J J
  ·skip
   refine ax J<|s (dB (D J) hI)<|bW h J (fun h=>?_) (fun h=>?_)
   ·refine ax J<|bR h fun r1 q_r1 h=>br (EffOK.fr1 (EffOK.fr1 (aE (xs:=[.tmp 29]) (ts:=[M (Z b2 0)]) [bx rV 186 b2 (ay l1 c1 x.length),db bV 3 l1 c1 x] _ J VU (RM _ _ _ _ q_r1) ⟨(D J),aZ⟩ (fun _=>J)))) J fun i=>?_;refine(show RG _ _ _ _ [_,_,_,_] ((30,bH r1.1)::_)from ?_);refine aN J<|aj<|Q J<|Q J<|s (aO (D J))<|bh 2 vu J<|s (aL (r:=rH aw [(0,Z b1 0)]) (x:=ob) zF J J (fF vq) (.tail _ (.tail _ (.head _))) (D J))<|Q J<|aD J (bX J)<|aD J (fun Y=>fH (bl J Y) hI)<|dG J<|s (aO (D J))<|bh 2 vu J<|fK (EffOK.fr2 (dF zF J (pC (hs' :=[(0,Z b1 0)]) u7 ⟨.inr ⟨J,J⟩,aZ⟩ J) J (D J) (D J))) fun i1=>?_;refine(show RG _ _ _ _ [_,_,_,_] _ from ?_);refine aJ<|ba<|am<|ba<|ba ?_;exact bE (K1 r1.1 r1.2 (i.h 0).1 (i.h 0).2 ({ob with bad:=(ob.bad||(decide (r1.1<(0:Int))))}:be) h) (aX J)
   ·refine bc ?_;exact bE (K1 xD x l1 c1 ob h) (aX J)
 ·skip
  refine ax J<|bp J<|bW h J (fun h=>?_) (fun h=>?_)
  ·refine ax J<|bR h fun r2 q_r2 h=>br (EffOK.fr3 (EffOK.fr3 (aE (xs:=[.tmp 14]) (ts:=[M (Z b2 0)]) [bx rV 186 b2 (ay l c t.length),db bV 3 l c t] _ J VU (RM _ _ _ _ q_r2) ⟨(D J),aZ⟩ (fun _=>J)))) J fun i2=>?_;refine(show RG _ _ _ _ [_,_,_,_] ((15,bH r2.1)::_)from ?_);refine aN J<|aj<|Q J<|Q J<|s (aO (D J))<|bh 2 vu J<|s (aL (r:=rH aw [(0,Z b1 0)]) (x:=r) zF J J (fF vq) (.tail _ (.tail _ (.head _))) (D J))<|Q J<|aD J (bX J)<|aD J (fun Y=>fH (bl J Y) hI)<|dG J<|s (aO (D J))<|bh 2 vu J<|fK (EffOK.fr2 (dF zF J (pC (hs' :=[(0,Z b1 0)]) u7 ⟨.inr ⟨J,J⟩,aZ⟩ J) J (D J) (D J))) fun i3=>?_;refine(show RG _ _ _ _ [_,_,_,_] _ from ?_);refine aJ<|ba<|am<|ba<|ba ?_;exact bE (h2 r2.1 r2.2 (i2.h 0).1 (i2.h 0).2 ({r with bad:=(r.bad||(decide (r2.1<(0:Int))))}:be) h) (aX J)
  ·refine bc<|am<|am<|ba<|ba ?_;exact bE (h2 xD t l c r h) (aX J)

def X8(b:Nat)(b1:Nat) r in1{R}(h:pm r in1=some R):bK bd 147 [M (Z b 0)] [bx (rH aw [(0,Z b1 0)]) 146 b r,bx dy 183 b1 in1] (fun i:OI=>em ((rI .u8)) R) (fun i=>[bx (rH aw [(0,Z b1 0)]) 146 b r,bx dy 183 b1 in1]):=by
 refine bK.of Tryz.func147 J J J fun w0 S0=>d<|fO ((rI .u8))<|bu<|aP<|bR h fun r1 q_r1 h=>?_
 refine ja 15 [tc (M (Z b 0)),tc (M (Z b 0)),tc (M (Z b 1)),tc (em ((rI .u8)) r.all),tc (M (Z b 0)),tc (M (Z b 0)),tc (M (Z b 1)),tc (em ((rI .u8)) r.all),tc (kE r.all),tc (M (Z b 0)),tc (M (Z b 0)),tc (M (Z b 0)),tc (M (Z b1 0)),tc (bH r1),tc (bH (IntKind.i64.wrap ((r.all.length:Int)-r1)))] [false,false,false,false,false,false,false,false,false,false,false,false,false,true,false] [fun _=>[bx (rH aw [(0,Z b1 0)]) 146 b r,bx dy 183 b1 in1],fun sg=>[bx dy 183 b1 in1,bx (rH aw [(0,Z b1 0)]) 146 b r]] J mixed J J J J J
  ⟨⟨[⟨0,fun _=>M (Z b 0),none⟩],_,0,1,J,⟨(fun _=>J),aZ⟩,J,J,J,J,J,fun _ sg _ _=>ai J (mt J)⟩,
  ⟨⟨[⟨3,fun _=>M (Z b 0),some 0⟩],_,0,1,J,⟨(fun _=>J),aZ⟩,J,J,J,J,J,fun _ sg _ _=>ai J (aO (D J))⟩,
  ⟨⟨[⟨4,fun _=>M (Z b 0),some 1⟩],_,0,1,J,⟨(fun _=>J),aZ⟩,J,J,J,J,J,fun _ sg _ _=>ai J (q9 1 Nx J J J)⟩,
  ⟨⟨[⟨5,fun _=>M (Z b 1),some 2⟩],_,0,1,J,⟨(fun _=>J),aZ⟩,J,J,J,J,J,DY (fun sg=>ai J (aL (r:=rH aw [(0,Z b1 0)]) (x:=r) qF J J (fF vr) (.head _) (D J))) (py (fun sg=>ai J (aL (r:=rH aw [(0,Z b1 0)]) (x:=r) qF J J (fF vr) (.tail _ (.head _)) (D J))))⟩,
  ⟨⟨[⟨0,fun _=>M (Z b 0),none⟩],_,0,1,J,⟨(fun _=>J),aZ⟩,J,J,J,J,J,fun _ sg _ _=>ai J (mt J)⟩,
  ⟨⟨[⟨7,fun _=>M (Z b 0),some 4⟩],_,0,1,J,⟨(fun _=>J),aZ⟩,J,J,J,J,J,fun _ sg _ _=>ai J (aO (D J))⟩,
  ⟨⟨[⟨8,fun _=>M (Z b 0),some 5⟩],_,0,1,J,⟨(fun _=>J),aZ⟩,J,J,J,J,J,fun _ sg _ _=>ai J (q9 1 Nx J J J)⟩,
  ⟨⟨[⟨9,fun _=>M (Z b 1),some 6⟩],_,0,1,J,⟨(fun _=>J),aZ⟩,J,J,J,J,J,DY (fun sg=>ai J (aL (r:=rH aw [(0,Z b1 0)]) (x:=r) qF J J (fF vr) (.head _) (D J))) (py (fun sg=>ai J (aL (r:=rH aw [(0,Z b1 0)]) (x:=r) qF J J (fF vr) (.tail _ (.head _)) (D J))))⟩,
  ⟨⟨[⟨10,fun _=>tD FN r.all,some 7⟩],_,0,1,J,⟨(fun _=>J),aZ⟩,J,J,J,J,J,fun _ sg _ _=>ai J (ST kG J)⟩,
  ⟨⟨[⟨0,fun _=>M (Z b 0),none⟩],_,0,0,J,⟨(fun _=>J),aZ⟩,J,J,J,J,J,fun _ sg _ _=>ai J (mt J)⟩,
  ⟨⟨[⟨12,fun _=>M (Z b 0),some 9⟩],_,0,0,J,⟨(fun _=>J),aZ⟩,J,J,J,J,J,fun _ sg _ _=>ai J (aO (D J))⟩,
  ⟨⟨[⟨13,fun _=>M (Z b 0),some 10⟩],_,0,0,J,⟨(fun _=>J),aZ⟩,J,J,J,J,J,fun _ sg _ _=>ai J (q9 0 vv J J J)⟩,
  ⟨⟨[⟨14,fun _=>M (Z b 0),some 11⟩],_,0,0,J,⟨(fun _=>J),aZ⟩,J,J,J,J,J,py (fun sg=>ai J (eQ ra J (.head _) (D J)))⟩,
  ⟨⟨[⟨15,fun _=>M (Z b1 0),some 12⟩],_,J,⟨(fun _=>J),aZ⟩,J,J,J,fun sg=>cP J (EffOK.fr1 (aE (xs:=[.tmp 15]) (ts:=[M (Z b1 0)]) [bx dy 183 b1 in1] _ J KI (E8 _ _ q_r1) ⟨(D J),aZ⟩ (fun _=>J)))⟩,
  ⟨⟨[⟨11,fun _=>tD bV (r.all.length:Int),some 8⟩,⟨16,fun _=>tD bV r1,some 13⟩],_,1,1,J,⟨(fun _=>J),(fun _=>J),aZ⟩,J,J,J,J,J,fun _ sg _ _=>ai J (dP (D J) (D J))⟩,
  aZ⟩⟩⟩⟩⟩⟩⟩⟩⟩⟩⟩⟩⟩⟩⟩ (fun sg=>?_)
 refine(show RG _ _ _ _ [_,_] _ from ?_);exact bR h fun y q_y h=>s (LF kG me J (D J) (D J) q_y)<|bf J<|am<|so h▸cj J ml J J (fun _ _ h=>h)

def XJ(b:Nat)(l:Option Nat)(c1:Nat) out c{R}(h:q5 out c=some R):bK bd 225 [tD (rI .u8) c,M (Z b 0)] [bx rV 37 b (ay l c1 out.length),db (rI .u8) 5 l c1 out] (fun i:OI=>tT []) (fun i=>[bx rV 37 b (ay (i.h 0).1 (i.h 0).2 R.length),db (rI .u8) 5 (i.h 0).1 (i.h 0).2 R]):=by
 exact bK.of Tryz.func225 J J J fun w0 S0=>aj<|s (qL qF (.head _) (D J))<|Q J<|s (aI (r:=(rI .u8)) (ys:=[c]) (xs:=[.tmp 4]) kG me J J J J J ⟨(D J),aZ⟩)<|bY<|bR h fun l1 q_l1 h=>bD me J J J J kG J J (D J) (D J) q_l1 fun l2 c2=>bY<|ek qF J aB J (D J) (FI (D J))<|aJ<|am<|am<|so h▸fE J (oi l2 c2) J J

end Go.Proofs.YtdohlidddcgfjaaGreat

