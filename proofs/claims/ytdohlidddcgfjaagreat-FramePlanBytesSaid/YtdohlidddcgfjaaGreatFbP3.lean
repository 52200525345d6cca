/- bR of this claim: P3. -/
import Derived.Test.YtdohlidddcgfjaaGreatFbT
import Derived.Test.YtdohlidddcgfjaaGreatFbP2
set_option linter.all false
namespace Go.Proofs.YtdohlidddcgfjaaGreat
open Go
set_option maxRecDepth 100000

def M9 e{R}(h:s4 e=some R):ir aV 234 [tD cD e] false bH 3 R:=by
 refine ir.of Tryz.func234 J J J fun w0 S0=>a8<|eG J<|cz false bH 3<|s (bZ u5)<|bp<|bm<|eJ kX J<|iw h Qv (JR _) (eb J) fun r h=>nW J<|dd h J (fun h=>?_) (fun h=>?_)
 ·exact a8<|cz false bH 3<|s (bZ u5)<|cj<|aC<|so h▸lJ J J
 ·refine ji<|a8<|cz false bH 3<|s (bZ u5)<|bp<|bm<|bz ra lk AS J<|cw sE J<|s (bU hI)<|bp<|aA<|bt (k:=10) J fun hN=>bV<|fD<|qy ?_;refine aT (lS (bx:=fun ls i out l c=>(e.Nodes.drop i=ls)/\lH ls out=some R) (Of:=fun _ i out l c=>[cM bH 3 l c out]) (Gf:=fun _ i out l c=>[(3,pY l c out),(10,ep (bq) e.Nodes),(11,nu e.Nodes),(12,bA (i:Int))]) (fun i out l c h=>?_) (fun e1 tl ih i out l c h=>?_) e.Nodes 0 p9 none 0 ⟨J,h⟩) (bj J)
  ·obtain⟨V,h⟩:=h
   refine ft V J<|aH<|ay J<|bT h fun Tk q_srt h=>?_;refine NO (n:=out.length) (ys:=Tk) CO ?_ Uu ?_ ?_ ?_ ?_ ?_
   ·rfl
   ·exact q_srt
   ·exact(D J)
   ·rfl
   ·rfl
   intro hl
   refine G0 hl 3 J<|G0 hl 25 J<|bp<|ay J<|bT h fun r1 q_r1 h=>B9 [cM bH 3 l c Tk] _ J Ut (RX l c _ q_r1) ⟨(D J),d⟩ J fun i1=>?_;refine(show RG _ _ _ _ [_] ((28,pY (i1.h 0).1 (i1.h 0).2 r1)::_)from ?_);exact bk J<|so h▸lJ J J
  ·obtain⟨V,h⟩:=h
   refine fq V J<|aP<|aA<|a8<|fP sE jd J (eo V)<|bw jd qO J fun b=>bG jd aB J<|bg 5 J<|bp<|a8<|sG kU ff J ?_;refine eJ bS J<|bM J<|dd h J (fun h=>?_) (fun h=>?_)
   ·refine av<|aO J<|bz rO mW bS J<|s (aY (r:=bH) (ys:=[e1.Col]) (xs:=[.tmp 21]) er bS J J J J J ⟨(D J),d⟩)<|bT h fun out1 q_out1 h=>cU bS J J J J er J J (D J) (D J) q_out1 fun l2 c2=>gU J<|aS<|dY V hN J ?_;exact bf (aT (ih (i+1) out1 l2 c2 ⟨dO V,h⟩) (bj J))
   ·refine bD<|dY V hN J ?_;exact bf (aT (ih (i+1) out l c ⟨dO V,h⟩) (bj J))
def GJ ae{R}(h:dj ae=some R):ir aV 128 [nj ae] false bH 3 R:=by
 refine ir.of Tryz.func128 J J J fun w0 S0=>a8<|cz false bH 3<|s (bZ u5)<|bp<|bm<|aO J<|G7 er (D J) J fun isnil hisnil=>bp<|qz (D J) (fun hc=>?_) (fun hc=>?_)
 ·have V:=hisnil hc
  have h:some p9=some R:=by simpa [dj,jb,V] using h
  exact a8<|cz false bH 3<|s (bZ u5)<|cj<|aC<|so h▸lJ J J
 ·exact ji<|a8<|ov (r:=bH) (ys:=p9) (xs:=[]) er bS J J J J J trivial J fun l c=>aO J<|bT h fun x q_x h=>cU bS J J J J er J J (D J) (D J) q_x fun l1 c1=>bk J<|so h▸lJ J J
def Sx{l:Option Nat}{c:Nat}{xs ae:List Int}{lo:Int}{R}(hs:dz xs lo (xs.length:Int)=some ae)(h:dj ae=some R):bd aV 128 [K (mf 1 l c lo.toNat ae.length)] [cM bH 3 l c xs] (fun i:OI=>pY (i.h 0).1 (i.h 0).2 R) (fun i=>[cM bH 3 (i.h 0).1 (i.h 0).2 R,cM bH 3 l c xs]):=by
 refine bd.of Tryz.func128 J J J fun w0 S0=>a8<|s (bZ u5)<|bp<|bm<|aO J<|Lv (r:=bH) er (.head _) hs (D J) J fun isnil hisnil=>bp<|qz (D J) (fun hc=>?_) (fun hc=>?_)
 ·have V:=hisnil hc
  have h:some p9=some R:=by simpa [dj,jb,V] using h
  exact a8<|cz false bH 3<|s (bZ u5)<|cj<|aC<|so h▸bB J (oi none 0) J J (fun _ _ h=>h)
 ·exact ji<|a8<|ov (r:=bH) (ys:=p9) (xs:=[]) er bS J J J J J trivial J fun l1 c1=>aO J<|bT h fun x q_x h=>I0 bS J J J J er J J (D J) (.tail _ (.head _)) hs (D J) q_x fun l2 c2=>bk J<|so h▸bB J (oi l2 c2) J J (fun _ _ h=>h)

def RW(b:Nat)(l:Option Nat)(c:Nat) stack k{R}(h:nJ stack k=some R):bd aV 253 [bA k,K (M b 0)] [Z rV 69 b (an l c stack.length),cM bH 3 l c stack] (fun i:OI=>nj R.1) (fun i=>[Z rV 69 b (an (i.h 0).1 (i.h 0).2 R.2.length),cM bH 3 (i.h 0).1 (i.h 0).2 R.2]):=by
 refine bd.of Tryz.func253 J J J fun w0 S0=>a8<|kb bH<|bp<|a8<|s (nD cF (.head _) (D J))<|s (nD cF (.head _) (D J))<|s (hD er (.tail _ (.head _)) (D J))<|aO J<|s (ii (D J) (D J))<|bT h fun y q_y h=>s (oe er bS J (.tail _ (.head _)) (D J) (D J) q_y)<|oW (.tail _ (.head _)) q_y fun hv=>cu<|bT h fun r q_r h=>B9 [cM bH 3 l c stack] _ J NC (Sx q_y q_r) ⟨(D J),d⟩ J fun i=>?_;refine(show RG _ _ _ _ [_,_,_] _ from ?_);refine aW J<|a8<|s (nD cF (.tail _ (.tail _ (.head _))) (D J))<|s (nD cF (.tail _ (.tail _ (.head _))) (D J))<|s (hD er (.tail _ (.head _)) (D J))<|aO J<|s (ii (D J) (D J))<|bT h fun y1 q_y1 h=>s (mO er bS J (.tail _ (.head _)) (D J) (D J) q_y1)<|cu<|B7 q_y1<|cL<|dV cF J aB J (D J) (Gs (D J))<|bp<|ay J<|aW J ?_;exact pA<|aG<|df<|bJ 3 J<|bJ 11 J<|bJ 4 J<|bJ 18 J<|fE 3 J<|ba<|aj<|aj<|so h▸bB J (oi l c) J J (fun _ _ h=>h)

def Pg e do1{R}(h:nE e do1=some R):dy aV 235 [tD cD e,(ke aV N5 N3 (fun(x:am×(List Int))=>do1 x.1 x.2))] (tT [bA R.1,bA R.2]):=by
 refine eu Tryz.func235 J<|a8<|eG J<|cC<|cC<|bp<|Cj<|a8<|cz false bH 3<|bw (x:=an none 0 0) cF (fun _=>Er) J fun b=>bp<|a8<|cC<|bp<|a8<|s (sQ (cts:=[K (M b 0)]) (caps:=[.tmp 6]) ⟨(D J),d⟩)<|gU J ?_;refine bp<|a8<|cC<|bp<|aP<|Ck<|aH<|bm<|bz ra lk AS J<|cw sE J<|s (bU hI)<|bp ?_;refine D3 (bx:=fun bad stack l c=>ln bad stack=some R) (Of:=fun bad stack l c=>[Z rV 69 b (an l c stack.length),cM bH 3 l c stack]) (Gf:=fun bad stack l c=>[(6,K (M b 0)),(7,bA 0),(9,bA bad)]) (fun bad stack l c h=>?_) (fun tV=>?_)
 ·skip
  refine aH<|bm<|aO J<|nW J<|dd h J (fun h=>?_) (fun h=>?_)
  ·exact ay J<|aO J<|gU J<|bk J<|aC<|ox<|ba<|ba<|so h▸ev J J J
  ·exact ji<|a8<|s (nD cF (.head _) (D J))<|bT h fun e1 q_e1 h=>s (gy er bS (.tail _ (.head _)) (D J) hI q_e1)<|s (lP (r:=bH) (i:=(0:Int)) (foff:=0) bS J J bo J (.tail _ (.head _)) q_e1 (D J))<|gU J<|fZ<|ox<|ba<|ba<|so h▸ev J J J
 ·skip
  refine bt (k:=16) J fun hN=>bV ?_;refine aT (Ha (bx:=fun ls i bad1 stack1 l1 c1=>(e.Nodes.drop i=ls)/\gp do1 ls bad1 stack1=some R) (Of:=fun _ i bad1 stack1 l1 c1=>[Z rV 69 b (an l1 c1 stack1.length),cM bH 3 l1 c1 stack1]) (Gf:=fun _ i bad1 stack1 l1 c1=>[(1,(ke aV N5 N3 (fun(x:am×(List Int))=>do1 x.1 x.2))),(6,K (M b 0)),(7,bA 0),(8,tC 253 [K (M b 0)]),(9,bA bad1),(16,ep (bq) e.Nodes),(17,nu e.Nodes),(18,bA (i:Int))]) (fun i bad1 stack1 l1 c1 h=>?_) (fun e2 tl ih i bad1 stack1 l1 c1 h=>?_) e.Nodes 0 (0:Int) p9 none 0 ⟨J,h⟩) (bj J)
  ·obtain⟨V,h⟩:=h
   refine ft V J ?_;exact bP (tV bad1 stack1 l1 c1 h) (bj J)
  ·obtain⟨V,h⟩:=h
   refine fq V J<|aP<|aA<|a8<|fP sE jd J (eo V)<|bw jd qO J fun b1=>bG jd aB J<|bg 11 J<|bp<|aP<|bT h fun r q_r h=>bT h fun r1 q_r1 h=>?_;refine bT h fun r2 q_r2 h=>?_
   refine ic 12 [tc ((ke aV N5 N3 (fun(x:am×(List Int))=>do1 x.1 x.2))),tc (tD bq e2),tc (tC 253 [K (M b 0)]),tc (cH bH e2.Tag),tc (bA e2.Tag),tc (bA r),tc (nj r1.1),tc (tT [bA r2.1,bA r2.2]),tc (tT [bA r2.1,bA r2.2]),tc (bA r2.1),tc (bA r2.2),tc (bA r2.1)] [false,false,false,false,false,false,true,false,false,false,false,false] [fun _=>[Z rV 69 b (an l1 c1 stack1.length),cM bH 3 l1 c1 stack1],fun sg=>[Z rV 69 b (an ((sg 6).h 0).1 ((sg 6).h 0).2 r1.2.length),cM bH 3 ((sg 6).h 0).1 ((sg 6).h 0).2 r1.2]] J mixed J J J J J
    ⟨⟨[⟨1,fun _=>(ke aV QQ QO (fun(x:am×(List Int))=>do1 x.1 x.2)),none⟩],_,0,1,J,⟨(fun _=>J),d⟩,J,J,J,J,J,fun _ sg _ _=>ac J (m1 J)⟩,
    ⟨⟨[⟨11,fun _=>cH bq e2,none⟩],_,0,1,J,⟨(fun _=>J),d⟩,J,J,J,J,J,fun _ sg _ _=>ac J (AJ jd J J)⟩,
    ⟨⟨[⟨8,fun _=>tC 253 [K (M b 0)],none⟩],_,0,0,J,⟨(fun _=>J),d⟩,J,J,J,J,J,fun _ sg _ _=>ac J (m1 J)⟩,
    ⟨⟨[⟨11,fun _=>cH bq e2,none⟩],_,0,0,J,⟨(fun _=>J),d⟩,J,J,J,J,J,fun _ sg _ _=>ac J (uv kU ff J J)⟩,
    ⟨⟨[⟨26,fun _=>cH bH e2.Tag,some 3⟩],_,0,0,J,⟨(fun _=>J),d⟩,J,J,J,J,J,fun _ sg _ _=>ac J (AJ bS J J)⟩,
    ⟨⟨[⟨27,fun _=>tD bH e2.Tag,some 4⟩],_,0,0,J,⟨(fun _=>J),d⟩,J,J,J,J,J,fun _ sg _ _=>ac J (c7 Qt (JQ _ q_r) ⟨(D J),d⟩)⟩,
    ⟨⟨[⟨25,fun _=>tC 253 [K (M b 0)],some 2⟩,⟨28,fun _=>tD bH r,some 5⟩],_,J,⟨(fun _=>J),(fun _=>J),d⟩,J,J,J,fun sg=>cm J (EffOK.fr1 (EffOK.fr1 (qG (xs:=[.tmp 28]) (ts:=[tD bH r]) (cts:=[K (M b 0)]) [Z rV 69 b (an l1 c1 stack1.length),cM bH 3 l1 c1 stack1] _ J Us (RW b l1 c1 _ _ q_r1) (D J) ⟨(D J),d⟩ (fun _=>J))))⟩,
    ⟨⟨[⟨23,fun _=>(ke aV QQ QO (fun(x:am×(List Int))=>do1 x.1 x.2)),some 0⟩,⟨24,fun _=>tD bq e2,some 1⟩,⟨29,fun _=>tD wF r1.1,some 6⟩],_,1,1,J,⟨(fun _=>J),(fun _=>J),(fun _=>J),d⟩,J,J,J,J,J,fun _ sg _ _=>ac J (ko (args:=QQ) (res:=QO) (f:=(fun(x:am×(List Int))=>do1 x.1 x.2)) (x:=((e2,r1.1):am×(List Int))) (D J) q_r2 ⟨(D J),(D J),d⟩)⟩,
    ⟨⟨[⟨30,fun _=>tT [tD bH r2.1,tD bH r2.2],some 7⟩],_,1,1,J,⟨(fun _=>J),d⟩,J,J,J,J,J,fun _ sg _ _=>ac J (m1 J)⟩,
    ⟨⟨[⟨22,fun _=>tT [tD bH r2.1,tD bH r2.2],some 8⟩],_,1,1,J,⟨(fun _=>J),d⟩,J,J,J,J,J,fun _ sg _ _=>ac J (Hn J J)⟩,
    ⟨⟨[⟨22,fun _=>tT [tD bH r2.1,tD bH r2.2],some 8⟩],_,1,1,J,⟨(fun _=>J),d⟩,J,J,J,J,J,fun _ sg _ _=>ac J (Hn J J)⟩,
    ⟨⟨[⟨31,fun _=>tD bH r2.1,some 9⟩],_,1,1,J,⟨(fun _=>J),d⟩,J,J,J,J,J,fun _ sg _ _=>ac J (Hp J)⟩,
    d⟩⟩⟩⟩⟩⟩⟩⟩⟩⟩⟩⟩ (fun sg=>?_)
   refine(show RG _ _ _ _ [_,_] _ from ?_);refine aW J<|bm<|aO J<|nW J<|dd h J (fun h=>?_) (fun h=>?_)
   ·refine ay J<|aW J<|dh<|aq<|bF J<|aq<|aq<|bY ?_;exact bP (tV r2.2 r1.2 ((sg 6).h 0).1 ((sg 6).h 0).2 h) (bj J)
   ·refine ji<|av<|s (nD cF (.head _) (D J))<|aO J<|s (aY (r:=bH) (ys:=[r2.1]) (xs:=[.tmp 37]) er bS J J J J J ⟨(D J),d⟩)<|cu<|bT h fun l2 q_l2 h=>cU bS J J J J er J J (D J) (D J) q_l2 fun l3 c2=>cu<|dV cF J aB J (D J) (Gs (D J))<|aS<|dY V hN J ?_;exact bf (aT (ih (i+1) bad1 l2 l3 c2 ⟨dO V,h⟩) (bj J))

def Pe tag{R}(h:ug tag=some R):dy aV 237 [bA tag] (gw R):=by
 exact eu Tryz.func237 J<|a8<|bE<|bp<|ay J<|bM J<|aO J<|bX J (cN J)<|bX J (fun X=>gE (bC J X) hI)<|bX J (rs J)<|ia J J J J (fun X=>m1 J)<|ia J J J J (fun X=>gu (bC J X) hI)<|bX J (fun X=>nP (bC J X) (fun W=>(bC J (xk X W))))<|ka J<|bk J<|so h▸aQ J J

def Pf kinds n l{R}(h:iM kinds n l=some R):dy aV 236 [tD bq n,nj l,cH nt kinds] (tT [bA R.1,bA R.2]):=by
 refine eu Tryz.func236 J<|a8<|eG J<|cC<|cC<|bp<|a8<|cC<|bp<|bm<|aO J<|cw er J<|s (bU hI)<|bp<|aA<|bt (k:=12) J fun hN=>bV ?_;refine aT (vu (bx:=fun ls i own=>(l.drop i=ls)/\lq kinds n ls own=some R) (Of:=fun _ i own=>[]) (Gf:=fun _ i own=>[(2,cH nt kinds),(3,cH bq n),(7,bA own),(12,nj l),(13,nu l),(14,bA (i:Int))]) (fun i own h=>?_) (fun e tl ih i own h=>?_) l 0 (0:Int) ⟨J,h⟩) (bj J)
 ·obtain⟨V,h⟩:=h
  refine ft V J<|aH<|ay J<|aW J<|a8<|cC<|bp ?_;refine aP<|aA<|a8<|bz kU ff bS J<|bM J<|aW J<|iX h J (fun h=>?_) (fun h=>?_)
  ·exact a8<|sG vM pq J<|bz oU mS bS J<|gU J<|fZ<|fa<|so h▸ev J J J
  ·refine a8<|bz kU ff bS J<|bM J<|aW J<|iX h J (fun h=>?_) (fun h=>?_)
   ·exact a8<|eJ cF J<|bz rO mW bS J<|bT h fun e1 q_e1 h=>fP er bS J q_e1<|gU J<|fZ<|fa<|so h▸ev J J J
   ·refine a8<|bz kU ff bS J<|iw h UC (Pe _) (eb J) fun r h=>aW J<|iX h J (fun h=>?_) (fun h=>?_)
    ·refine av<|cC<|cC<|aS<|aF<|aH<|bm<|aO J<|bM J<|aO J<|bX J (cN J)<|bX J (zB J)<|bX J (rs J)<|ia J J J J (fun X=>m1 J)<|ia J J J J (fun X=>m1 J)<|ia J J J J (fun X=>jm (bC J X) (bC J X))<|bX J (fun X=>nP (bC J X) (fun W=>(bC J (xk X W))))<|ka J<|dd h J (fun h=>?_) (fun h=>?_)
     ·exact a8<|cC<|fZ<|aC<|so h▸ev J J J
     ·exact ji<|ay J<|gU J<|fZ<|so h▸ev J J J
    ·refine a8<|bz kU ff bS J<|bM J<|aO J<|bX J (ca kU ff J J)<|bX J (b7 bS J J)<|bX J (kL J)<|ka J<|aO J<|bX J (ca kU ff J J)<|bX J (b7 bS J J)<|bX J (kL J)<|ka J<|aW J<|iX h J (fun h=>?_) (fun h=>?_)
     ·refine av<|cC<|aS<|aF<|aH<|bm<|aO J<|bM J<|aO J<|bX J (cN J)<|bX J (zB J)<|bX J (rs J)<|ia J J J J (fun X=>m1 J)<|ia J J J J (fun X=>m1 J)<|ia J J J J (fun X=>jm (bC J X) (bC J X))<|bX J (fun X=>nP (bC J X) (fun W=>(bC J (xk X W))))<|ka J<|dd h J (fun h=>?_) (fun h=>?_)
      ·exact a8<|cC<|fZ<|aC<|so h▸ev J J J
      ·exact ji<|ay J<|gU J<|fZ<|so h▸ev J J J
     ·refine bD<|aF<|aH<|bm<|aO J<|bM J<|aO J<|bX J (cN J)<|bX J (zB J)<|bX J (rs J)<|ia J J J J (fun X=>m1 J)<|ia J J J J (fun X=>m1 J)<|ia J J J J (fun X=>jm (bC J X) (bC J X))<|bX J (fun X=>nP (bC J X) (fun W=>(bC J (xk X W))))<|ka J<|dd h J (fun h=>?_) (fun h=>?_)
      ·exact a8<|cC<|fZ<|aC<|so h▸ev J J J
      ·exact ji<|ay J<|gU J<|fZ<|so h▸ev J J J
 ·obtain⟨V,h⟩:=h
  refine fq V J<|aP<|aA<|a8<|fP er bS J (eo V)<|aW J<|aA<|ay J<|bM J ?_;refine aO J<|bX J (cN J)<|bX J (cN J)<|bX J (fun X=>dx (bC J X) (bC J X))<|ka J<|aW J<|iX h J (fun h=>?_) (fun h=>?_)
  ·refine bD<|aF<|dY V hN J ?_;exact bf (aT (ih (i+1) own ⟨dO V,h⟩) (bj J))
  ·refine ay J<|bM J<|aW J<|iX h J (fun h=>?_) (fun h=>?_)
   ·refine av<|aO J<|gU J<|aS<|aF<|dY V hN J ?_;exact bf (aT (ih (i+1) e ⟨dO V,h⟩) (bj J))
   ·refine av<|cC<|aS<|aF<|dY V hN J ?_;exact bf (aT (ih (i+1) z2 ⟨dO V,h⟩) (bj J))

def An e kinds{R}(h:ma e kinds=some R):dy aV 206 [tD cD e,nj kinds] (tT [bA R.1,bA R.2]):=by
 refine eu Tryz.func206 J<|a8<|eG J<|eG J<|cC<|cC<|bp<|bm<|eJ kX J<|iw h Qv (JR _) (eb J) fun r h=>aW J<|ay J<|nW J<|bp ?_;refine iX h J (fun h=>?_) (fun h=>?_)
 ·exact ay J<|cC<|bk J<|aC<|so h▸ev J J J
 ·refine ji<|bm<|eJ cF J<|cw er J<|s (bU hI)<|bp<|aA<|bt (k:=16) J fun hN=>bV ?_;refine aT (gO (bx:=fun ls i=>(kinds.drop i=ls)/\oV e kinds ls=some R) (Of:=fun _ i=>[]) (Gf:=fun _ i=>[(2,cH cD e),(3,cH nt kinds),(16,nj kinds),(17,nu kinds),(18,bA (i:Int))]) (fun i h=>?_) (fun e1 tl ih i h=>?_) kinds 0 ⟨J,h⟩) (bj J)
  ·obtain⟨V,h⟩:=h
   refine ft V J<|aH<|bm<|eJ kX J<|uE h UF (M9 _) (eb J) fun r1 h l c=>s (hD er (.head _) (D J))<|s (bU hI)<|bp<|aA ?_;refine yC (.head _) fun hN1=>bV ?_;refine aT (gO (bx:=fun ls1 i1=>(r1.drop i1=ls1)/\lF e kinds ls1=some R) (Of:=fun _ i1=>[cM bH 3 l c r1]) (Gf:=fun _ i1=>[(2,cH cD e),(3,cH nt kinds),(30,pY l c r1),(31,nu r1),(32,bA (i1:Int))]) (fun i1 h=>?_) (fun e2 tl1 ih1 i1 h=>?_) r1 0 ⟨J,h⟩) (bj J)
   ·obtain⟨hx1,h⟩:=h
    refine ft hx1 J<|aH<|a8<|eJ kX J<|s ((show b9 _ _ _ _ ((ke aV N5 N3 (fun(x:am×(List Int))=>(iM kinds) x.1 x.2)))from uY (cts:=[cH nt kinds]) (caps:=[.tmp 3]) UD ⟨(D J),d⟩ (fun x y h=>Pf _ _ _ h)))<|iw h UE (Pg _ _) (eb J) fun r2 h=>eF J J<|eF J J<|gU J<|gU J<|aS ?_;exact aH<|pA<|ba<|so h▸ev J J J
   ·obtain⟨hx1,h⟩:=h
    refine fq hx1 J<|aP<|aA<|a8<|s (gy er bS (.head _) (D J) (D J) (eo hx1))<|s (lP (r:=bH) (i:=(i1:Int)) (foff:=0) bS J J bo J (.head _) (eo hx1) (D J))<|aW J<|ay J<|eJ cF J<|cw er J ?_;refine s (gE (D J) (D J))<|dd h J (fun h=>?_) (fun h=>?_)
    ·exact a8<|cC<|fZ<|fa<|aC<|fa<|ba<|so h▸ev J J J
    ·refine bD<|dY hx1 hN1 J ?_;exact bf (aT (ih1 (i1+1) ⟨dO hx1,h⟩) (bj J))
  ·obtain⟨V,h⟩:=h
   refine fq V J<|aP<|aA<|a8<|fP er bS J (eo V)<|aW J<|ay J<|s (ij (D J) hI)<|aO J ?_;refine bX J (cN J)<|bX J (fun X=>jL (bC J X) hI)<|ka J<|dd h J (fun h=>?_) (fun h=>?_)
   ·exact a8<|cC<|fZ<|fa<|aC<|fa<|so h▸ev J J J
   ·refine bD<|dY V hN J ?_;exact bf (aT (ih (i+1) ⟨dO V,h⟩) (bj J))

def JS e kinds{R}(h:i0 e kinds=some R):dy aV 205 [tD cD e,nj kinds] (gw R):=by
 refine eu Tryz.func205 J<|a8<|eG J<|bE<|bp<|a8<|eJ kX J<|aO J<|iw h JZ (An _ _) (eb J) fun r h=>aO J<|eF J J<|eF J J<|gU J<|aW J<|ay J<|bM J ?_;exact aO J<|ah J (cN J)<|ah J (kL J)<|ah J (rs J)<|c0 J J J J (fun X=>m1 J)<|c0 J J J J (fun X=>dx (bC J X) hI)<|ah J (fun X=>lW (bC J X) (fun W=>(bC J (xk X (y3 W)))))<|cB J<|bk J<|so h▸aQ J J

def Sm(b:Nat)(ix:OI) l{R}(h:fV l=some R):bd aV 165 [K (M b 0)] (dM b l ix) (fun _:OI=>gw R.1) (fun j=>dM b R.2 j):=by
 refine bd.of Tryz.func165 J J J fun w0 S0=>?_;refine(show CG _ _ _ [Z (rH bh [(1,an (ix.h 0).1 (ix.h 0).2 l.kinds.length),(2,an (ix.h 1).1 (ix.h 1).2 l.open_.length)]) 168 b l,tip nt 69 (ix.h 0).1 (ix.h 0).2 l.kinds,cM bH 3 (ix.h 1).1 (ix.h 1).2 l.open_] _ from ?_);refine a8<|bE<|bp<|aP<|bT h fun r q_r h=>?_
 refine pX 13 (ts:=[K (M b 0),K (M b 0),K (M b 0),K (M b 15),nj l.a_,K (M b 0),K (M b 0),K (M b 16),nj l.b,ep (nt) ([l.a_,l.b]),nj r,K (M b 0),K (M b 17)]) mixed J J J
  ⟨gx J J,
  ⟨gx J J,
  ⟨fm 4 1 J J (aD (D J)),
  ⟨fm 5 2 J J (oz 15 iF J J J),
  ⟨fm 6 3 J J (aE (r:=rH bh [(1,an (ix.h 0).1 (ix.h 0).2 l.kinds.length),(2,an (ix.h 1).1 (ix.h 1).2 l.open_.length)]) (x:=l) cF J J (dZ nf) (.head _) (D J)),
  ⟨gx J J,
  ⟨fm 8 5 J J (aD (D J)),
  ⟨fm 9 6 J J (oz 16 yi J J J),
  ⟨fm 10 7 J J (aE (r:=rH bh [(1,an (ix.h 0).1 (ix.h 0).2 l.kinds.length),(2,an (ix.h 1).1 (ix.h 1).2 l.open_.length)]) (x:=l) cF J J (dZ DG) (.head _) (D J)),
  ⟨jz 7 4 11 8 J J J (aY (r:=wF) (ys:=[l.a_,l.b]) (xs:=[.tmp 7,.tmp 11]) zY cF J J J J J ⟨(D J),(D J),d⟩),
  ⟨fm 12 9 J J (c7 UU (Po _ q_r) ⟨(D J),d⟩),
  ⟨fm 3 0 J J (aD (D J)),
  ⟨fm 14 11 J J (oz 17 eU J J J),
  d⟩⟩⟩⟩⟩⟩⟩⟩⟩⟩⟩⟩⟩ ?_
 refine d6 (cK cF J (mF (hs' :=[(1,an (ix.h 0).1 (ix.h 0).2 l.kinds.length),(2,an (ix.h 1).1 (ix.h 1).2 l.open_.length)]) qC ⟨.inr ⟨J,J⟩,.inr ⟨J,J⟩,d⟩ J) J (D J) (D J)) fun i=>?_;refine(show RG _ _ _ _ [_,_,_] _ from ?_);refine bp<|aP<|bT h fun r1 q_r1 h=>?_
 refine jV (ts:=[_,_,_,_,_,_,_,_,_,_,_]) mixed J J
  ⟨gx J J,
  ⟨fm 16 0 J J (aD (D J)),
  ⟨fm 17 1 J J (oz 3 fX J J J),
  ⟨fm 18 2 J J (oz 9 tM J J J),
  ⟨fm 19 3 J J (aE (r:=rH bh [(1,an (ix.h 0).1 (ix.h 0).2 l.kinds.length),(2,an (ix.h 1).1 (ix.h 1).2 l.open_.length)]) (x:=({l with result:=r}:ai)) kX J J (dZ (dJ eD nR)) (.head _) (D J)),
  ⟨gx J J,
  ⟨fm 21 5 J J (aD (D J)),
  ⟨fm 22 6 J J (oz 17 eU J J J),
  ⟨fm 23 7 J J (aE (r:=rH bh [(1,an (ix.h 0).1 (ix.h 0).2 l.kinds.length),(2,an (ix.h 1).1 (ix.h 1).2 l.open_.length)]) (x:=({l with result:=r}:ai)) cF J J (dZ y7) (.head _) (D J)),
  ⟨jz 20 4 24 8 J J J (c7 Qy (JS _ _ q_r1) ⟨(D J),(D J),d⟩),
  ⟨fm 25 9 J J (Hp J),
  d⟩⟩⟩⟩⟩⟩⟩⟩⟩⟩⟩ ?_
 exact aH<|pA<|aG<|aG<|aG<|so h▸bB J ix J J (fun _ _ h=>h)

def Sl(b:Nat)(ix:OI) l{R}(h:ew l=some R):bd aV 166 [K (M b 0)] (dM b l ix) (fun _:OI=>gw R.1) (fun j=>dM b R.2 j):=by
 refine bd.of Tryz.func166 J J J fun w0 S0=>?_;refine(show CG _ _ _ [Z (rH bh [(1,an (ix.h 0).1 (ix.h 0).2 l.kinds.length),(2,an (ix.h 1).1 (ix.h 1).2 l.open_.length)]) 168 b l,tip nt 69 (ix.h 0).1 (ix.h 0).2 l.kinds,cM bH 3 (ix.h 1).1 (ix.h 1).2 l.open_] _ from ?_);refine a8<|bE<|bp<|ay J<|aO J<|s (aD (D J))<|aX 15 iF J<|s (aE (r:=rH bh [(1,an (ix.h 0).1 (ix.h 0).2 l.kinds.length),(2,an (ix.h 1).1 (ix.h 1).2 l.open_.length)]) (x:=l) cF J J (dZ nf) (.head _) (D J))<|s (aD (D J))<|aX 17 eU J<|d6 (cK cF J (mF (hs' :=[(1,an (ix.h 0).1 (ix.h 0).2 l.kinds.length),(2,an (ix.h 1).1 (ix.h 1).2 l.open_.length)]) qC ⟨.inr ⟨J,J⟩,.inr ⟨J,J⟩,d⟩ J) J (D J) (D J)) fun i=>?_;refine(show RG _ _ _ _ [_,_,_] _ from ?_);refine bp<|aP<|bT h fun r q_r h=>?_
 refine jV (ts:=[_,_,_,_,_,_,_,_,_,_,_]) mixed J J
  ⟨gx J J,
  ⟨fm 10 0 J J (aD (D J)),
  ⟨fm 11 1 J J (oz 3 fX J J J),
  ⟨fm 12 2 J J (oz 9 tM J J J),
  ⟨fm 13 3 J J (aE (r:=rH bh [(1,an (ix.h 0).1 (ix.h 0).2 l.kinds.length),(2,an (ix.h 1).1 (ix.h 1).2 l.open_.length)]) (x:=({l with result:=l.a_}:ai)) kX J J (dZ (dJ eD nR)) (.head _) (D J)),
  ⟨gx J J,
  ⟨fm 15 5 J J (aD (D J)),
  ⟨fm 16 6 J J (oz 15 iF J J J),
  ⟨fm 17 7 J J (aE (r:=rH bh [(1,an (ix.h 0).1 (ix.h 0).2 l.kinds.length),(2,an (ix.h 1).1 (ix.h 1).2 l.open_.length)]) (x:=({l with result:=l.a_}:ai)) cF J J (dZ nf) (.head _) (D J)),
  ⟨jz 14 4 18 8 J J J (c7 Qy (JS _ _ q_r) ⟨(D J),(D J),d⟩),
  ⟨fm 19 9 J J (Hp J),
  d⟩⟩⟩⟩⟩⟩⟩⟩⟩⟩⟩ ?_
 exact aH<|pA<|aG<|aG<|aG<|so h▸bB J ix J J (fun _ _ h=>h)

end Go.Proofs.YtdohlidddcgfjaaGreat

