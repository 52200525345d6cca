/- bR of this claim: P8. -/
import Derived.Test.YtdohlidddcgfjaaGreatFbT
import Derived.Test.YtdohlidddcgfjaaGreatFbP7
set_option linter.all false
namespace Go.Proofs.YtdohlidddcgfjaaGreat
open Go
set_option maxRecDepth 100000

def RU m{R}(h:zL m=some R):dy aV 29 [tD fS m] (gw R):=by
 refine eu Tryz.func29 J<|a8<|eG J<|bE<|bp<|a8<|s (bZ (show aI _ _ _ ((ke aV Fs nM QL))from(MU WB fun x y h=>RQ _ h)))<|bp<|ay J<|bz BJ yc bS J<|bT h fun r q_r h=>s (ko (args:=LR) (res:=xB) (f:=QL) (x:=((m.From):Int)) (D J) q_r ⟨(D J),d⟩)<|aO J<|bT h fun t q_t h=>ah J (cN J)<|ah J (ca BI yb J J)<|ah J (b7 bS J J) ?_
 obtain⟨r1,h1t,h0t⟩:=og q_t
 have q_r1g:=fun W=>(h1t W).1
 refine ah J (fun X=>ko (args:=LR) (res:=xB) (f:=QL) (x:=((m.To):Int)) (bC J X) (q_r1g X) ⟨(bC J X),d⟩)<|s (cA (D J) (fun W=>(bC J W)) (fun W=>(h1t W).2) h0t)<|aO J<|ah J (ca ze vf J J)<|ah J (b7 bS J J)<|ah J (fun X=>gE (bC J X) hI)<|cB J<|aO J<|ah J (ca ze vf J J)<|ah J (b7 bS J J)<|ah J (fun X=>gu (bC J X) hI)<|cB J<|aO J<|bT h fun t1 q_t1 h=>ah J (fun X=>AJ v7 J J) ?_
 obtain⟨r2,h1t1,h0t1⟩:=og q_t1
 have q_r2g:=fun W=>(h1t1 W).1
 refine ah J (fun X=>c7 WA (RP _ (q_r2g X)) ⟨(bC J X),d⟩)<|s (cA (D J) (fun W=>(bC J W)) (fun W=>(h1t1 W).2) h0t1)<|aO J<|bT h fun t2 q_t2 h=>ah J (fun X=>AJ v7 J J) ?_
 obtain⟨r3,h1t2,h0t2⟩:=og q_t2
 have q_r3g:=fun W=>(h1t2 W).1
 exact ah J (fun X=>c7 Wz (RO _ (q_r3g X)) ⟨(bC J X),d⟩)<|s (cA (D J) (fun W=>(bC J W)) (fun W=>(h1t2 W).2) h0t2)<|bk J<|so h▸aQ J J

def o7(b:Nat)(ix:OI) w1 l{R}(h:bO w1 l=some R):bd aV 59 [K (M b 0),nj l] (ea b w1 ix) (fun _:OI=>tT []) (fun j=>ea b R j):=by
 refine bd.of Tryz.func59 J J J fun w0 S0=>?_;refine(show CG _ _ _ [Z (rH cr [(0,an (ix.h 0).1 (ix.h 0).2 w1.bytes.length)]) 60 b w1,tip (rI .u8) 5 (ix.h 0).1 (ix.h 0).2 w1.bytes] _ from ?_);refine ay J<|cw er J<|s (bU hI)<|bp<|aA<|bt (k:=6) J fun hN=>bV ?_;refine aT (lS (bx:=fun ls i ob l1 c=>(l.drop i=ls)/\eH ls ob=some R) (Of:=fun _ i ob l1 c=>[Z (rH cr [(0,an l1 c ob.bytes.length)]) 60 b ob,tip (rI .u8) 5 l1 c ob.bytes]) (Gf:=fun _ i ob l1 c=>[(0,K (M b 0)),(6,nj l),(7,nu l),(8,bA (i:Int))]) (fun i ob l1 c h=>?_) (fun e tl ih i ob l1 c h=>?_) l 0 w1 (ix.h 0).1 (ix.h 0).2 ⟨J,h⟩) (bj J)
 ·obtain⟨V,h⟩:=h
  exact ft V J<|aj<|aj<|so h▸dW J (o5 [(l1,c)]) J J
 ·obtain⟨V,h⟩:=h
  refine fq V J<|aP<|aA<|a8<|fP er bS J (eo V)<|aW J<|av<|aO J<|aO J<|s (aD (D J))<|aX 0 mj J ?_;refine s (lc ny J (.head _) (.tail _ (.head _)) (D J))<|aO J<|s (eP kz sD (D J))<|s (aY (r:=(rI .u8)) (ys:=[(IntKind.u8.wrap e)]) (xs:=[.tmp 18]) gZ rk J J J J J ⟨(D J),d⟩)<|cu<|bT h fun l2 q_l2 h=>t6 rk J J J J gZ J J (D J) (D J) q_l2 fun l3 c1=>s (aD (D J))<|aX 0 mj J<|d6 (EffOK.fr1 (kJ (hs' :=[(0,an l3 c1 l2.length)]) (u:=an l3 c1 l2.length) ny J J ly J ⟨.inl ⟨J,J,J⟩,d⟩ (D J) (sf (D J)) (z7 (D J)))) fun i1=>?_;refine(show RG _ _ _ _ [_,_] _ from ?_);refine aS<|dY V hN J ?_;exact bf (aT (ih (i+1) ({ob with bytes:=l2}:aL) l3 c1 ⟨dO V,h⟩) (bj J))

def M4(b:Nat)(ix:OI) w1 l{R}(h:iS w1 l=some R):bd aV 90 [K (M b 0),nj l] (ea b w1 ix) (fun _:OI=>tT []) (fun j=>ea b R j):=by
 refine bd.of Tryz.func90 J J J fun w0 S0=>?_;refine(show CG _ _ _ [Z (rH cr [(0,an (ix.h 0).1 (ix.h 0).2 w1.bytes.length)]) 60 b w1,tip (rI .u8) 5 (ix.h 0).1 (ix.h 0).2 w1.bytes] _ from ?_);refine ay J<|aO J<|cw er J<|s (aY (r:=bH) (ys:=[(l.length:Int)]) (xs:=[.tmp 6]) er bS J J J J J ⟨(D J),d⟩)<|bT h fun r q_r h=>aR (EffOK.fr1 (EffOK.fr1 (au (xs:=[.tmp 4,.tmp 7]) (ts:=[K (M b 0),nj ([(l.length:Int)])]) (ea b w1 ix) _ J uu (o7 b ix w1 _ q_r) ⟨(D J),(D J),d⟩ (fun _=>J)))) J fun i=>?_;refine(show RG _ _ _ _ [_,_] ((8,tT [])::_)from ?_);refine bp<|av<|aO J<|aO J<|bT h fun r1 q_r1 h=>aR (EffOK.fr1 (EffOK.fr1 (au (xs:=[.tmp 9,.tmp 10]) (ts:=[K (M b 0),nj l]) (ea b r i) _ J uu (o7 b i r _ q_r1) ⟨(D J),(D J),d⟩ (fun _=>J)))) J fun i1=>?_;refine(show RG _ _ _ _ [_,_] ((11,tT [])::_)from ?_);exact aS<|aj<|aj<|so h▸dW J i1 J J

def Qo(b:Nat)(ix:OI) w1 n{R}(h:ee w1 n=some R):bd aV 84 [K (M b 0),tD bc n] (ea b w1 ix) (fun _:OI=>tT []) (fun j=>ea b R j):=by
 refine bd.of Tryz.func84 J J J fun w0 S0=>?_;refine(show CG _ _ _ [Z (rH cr [(0,an (ix.h 0).1 (ix.h 0).2 w1.bytes.length)]) 60 b w1,tip (rI .u8) 5 (ix.h 0).1 (ix.h 0).2 w1.bytes] _ from ?_);refine a8<|eG J<|bp<|ay J<|bz tN mU bS J<|s (aY (r:=bH) (ys:=[n.Table]) (xs:=[.tmp 6]) er bS J J J J J ⟨(D J),d⟩)<|bT h fun r q_r h=>aR (EffOK.fr1 (EffOK.fr1 (au (xs:=[.tmp 4,.tmp 7]) (ts:=[K (M b 0),nj ([n.Table])]) (ea b w1 ix) _ J uu (o7 b ix w1 _ q_r) ⟨(D J),(D J),d⟩ (fun _=>J)))) J fun i=>?_;refine(show RG _ _ _ _ [_,_] ((8,tT [])::_)from ?_);refine bp<|av<|aO J<|bz pr ja cF J<|bT h fun r1 q_r1 h=>aR (EffOK.fr1 (EffOK.fr1 (au (xs:=[.tmp 9,.tmp 11]) (ts:=[K (M b 0),nj n.Kinds]) (ea b r i) _ J SI (M4 b i r _ q_r1) ⟨(D J),(D J),d⟩ (fun _=>J)))) J fun i1=>?_;refine(show RG _ _ _ _ [_,_] ((12,tT [])::_)from ?_);exact aS<|aj<|aj<|so h▸dW J i1 J J

def JP(b:Nat)(ix:OI) w1 is1{R}(h:gI w1 is1=some R):bd aV 61 [K (M b 0),gw is1] (ea b w1 ix) (fun _:OI=>tT []) (fun j=>ea b R j):=by
 refine bd.of Tryz.func61 J J J fun w0 S0=>?_;refine(show CG _ _ _ [Z (rH cr [(0,an (ix.h 0).1 (ix.h 0).2 w1.bytes.length)]) 60 b w1,tip (rI .u8) 5 (ix.h 0).1 (ix.h 0).2 w1.bytes] _ from ?_);refine a8<|cC<|bp ?_;refine gR (bx:=fun n=>kq w1 n=some R) (Of:=fun n=>[Z (rH cr [(0,an (ix.h 0).1 (ix.h 0).2 w1.bytes.length)]) 60 b w1,tip (rI .u8) 5 (ix.h 0).1 (ix.h 0).2 w1.bytes]) (Gf:=fun n=>[(0,K (M b 0)),(4,bA n)]) (fun n h=>?_) (fun tV=>?_)
 ·skip
  refine av<|aO J<|aO J<|s (aY (r:=bH) (ys:=[n]) (xs:=[.tmp 7]) er bS J J J J J ⟨(D J),d⟩)<|bT h fun r q_r h=>aR (EffOK.fr1 (EffOK.fr1 (au (xs:=[.tmp 6,.tmp 8]) (ts:=[K (M b 0),nj ([n])]) (ea b w1 ix) _ J uu (o7 b ix w1 _ q_r) ⟨(D J),(D J),d⟩ (fun _=>J)))) J fun i=>?_;refine(show RG _ _ _ _ [_,_] ((9,tT [])::_)from ?_);exact aS<|aj<|aj<|so h▸dW J i J J
 ·skip
  refine ay J<|dd h J (fun h=>?_) (fun h=>?_)
  ·refine av<|cC<|aS ?_;exact bP (tV (1:Int) h) (bj J)
  ·refine bD ?_;exact bP (tV (0:Int) h) (bj J)

def Nf b p bytes{R}(h:pn b p bytes=some R):ir aV 199 [ep ((rI .u8)) b,tD Fp p,bA bytes] false (rI .u8) 5 R:=by
 refine ir.of Tryz.func199 J J J fun w0 S0=>a8<|cz false (rI .u8) 5<|s (bZ u5)<|bp<|ay J<|cw gZ J<|aO J<|s (fc (D J) (D J))<|bT h fun mk q_mk h=>aR (zh (r:=(rI .u8)) (x:=(0:Int)) rk J J J gZ (fun _=>J) hI (D J) q_mk) J fun i=>aW J<|ay J<|aO J<|bT h fun out q_out h=>cU rk J J J J gZ J J (D J) (D J) q_out fun l c=>?_;refine aW J<|bm<|aO J<|s (bU hI)<|bp<|aA<|bV<|fD<|qy ?_;refine aT (Ao (bx:=fun n out1 l1 c1 x=>jf p bytes n out1 x=some R) (Of:=fun out1 l1 c1 x=>[cM (rI .u8) 5 l1 c1 out1]) (Gf:=fun out1 l1 c1 x=>[(1,tD Fp p),(2,bA bytes),(7,pY l1 c1 out1),(17,bA bytes),(18,bA x)]) (fun out1 l1 c1 x h=>nn h) (fun n ih out1 l1 c1 x h=>?_) eI out l c (0:Int) h) (bj J);refine d8<|a8<|nw J<|bp<|aP<|iX h J (fun h=>?_) (fun h=>?_)
 ·refine ji<|aP<|aA<|ay J<|aW J<|av<|aO J<|aO J<|s (eP Fg xr (D J))<|aO J<|aO J<|s (ii (D J) (D J))<|s (Bj hI (D J))<|s (ii (D J) hI)<|bT h fun u q_u h=>s (yZ (D J) (D J) (Bv q_u))<|s (eP xr sD (D J))<|s (aY (r:=(rI .u8)) (ys:=[(IntKind.u8.wrap (((IntKind.u64.wrap p)).fdiv (2^(min (Int.toNat (IntKind.i64.wrap ((IntKind.i64.wrap ((8:Int)*(IntKind.i64.wrap (bytes-x))))-(8:Int)))) IntKind.u64.bits))))]) (xs:=[.tmp 30]) gZ rk J J J J J ⟨(D J),d⟩)<|bT h fun out2 q_out2 h=>?_;refine cU rk J J J J gZ J J (D J) (D J) q_out2 fun l2 c2=>gU J<|aS<|aF<|aH<|av<|s (fc (D J) hI)<|aO J<|aS ?_;exact bf (aT (ih out2 l2 c2 (IntKind.i64.wrap (x+(1:Int))) h) (bj J))
 ·exact dh<|aq<|aq<|bY<|aH<|ay J<|bk J<|so h▸lJ J J
def GI b p{R}(h:oh b p=some R):ir aV 159 [ep ((rI .u8)) b,tD Fp p] false (rI .u8) 5 R:=by
 exact ir.of Tryz.func159 J J J fun w0 S0=>a8<|cz false (rI .u8) 5<|s (bZ u5)<|bp<|ay J<|aO J<|uE h UY (Nf _ _ _) (eb J) fun r h l c=>bk J<|so h▸lJ J J
def Nj b p bytes{R}(h:pj b p bytes=some R):ir aV 157 [ep ((rI .u8)) b,tD lL p,bA bytes] false (rI .u8) 5 R:=by
 refine ir.of Tryz.func157 J J J fun w0 S0=>a8<|cz false (rI .u8) 5<|s (bZ u5)<|bp<|ay J<|cw gZ J<|aO J<|s (fc (D J) (D J))<|bT h fun mk q_mk h=>aR (zh (r:=(rI .u8)) (x:=(0:Int)) rk J J J gZ (fun _=>J) hI (D J) q_mk) J fun i=>aW J<|ay J<|aO J<|bT h fun out q_out h=>cU rk J J J J gZ J J (D J) (D J) q_out fun l c=>?_;refine aW J<|bm<|aO J<|s (bU hI)<|bp<|aA<|bV<|fD<|qy ?_;refine aT (Ao (bx:=fun n out1 l1 c1 x=>dA p bytes n out1 x=some R) (Of:=fun out1 l1 c1 x=>[cM (rI .u8) 5 l1 c1 out1]) (Gf:=fun out1 l1 c1 x=>[(1,tD lL p),(2,bA bytes),(7,pY l1 c1 out1),(17,bA bytes),(18,bA x)]) (fun out1 l1 c1 x h=>nn h) (fun n ih out1 l1 c1 x h=>?_) eI out l c (0:Int) h) (bj J);refine d8<|a8<|nw J<|bp<|aP<|iX h J (fun h=>?_) (fun h=>?_)
 ·refine ji<|aP<|aA<|ay J<|aW J<|av<|aO J<|aO J<|aO J<|aO J<|s (ii (D J) (D J))<|s (Bj hI (D J))<|s (ii (D J) hI)<|bT h fun u q_u h=>s (yZ (D J) (D J) (Bv q_u))<|s (eP xr sD (D J))<|s (aY (r:=(rI .u8)) (ys:=[(IntKind.u8.wrap ((p).fdiv (2^(min (Int.toNat (IntKind.i64.wrap ((IntKind.i64.wrap ((8:Int)*(IntKind.i64.wrap (bytes-x))))-(8:Int)))) IntKind.u64.bits))))]) (xs:=[.tmp 29]) gZ rk J J J J J ⟨(D J),d⟩)<|bT h fun out2 q_out2 h=>cU rk J J J J gZ J J (D J) (D J) q_out2 fun l2 c2=>?_;refine gU J<|aS<|aF<|aH<|av<|s (fc (D J) hI)<|aO J<|aS ?_;exact bf (aT (ih out2 l2 c2 (IntKind.i64.wrap (x+(1:Int))) h) (bj J))
 ·exact dh<|aq<|aq<|bY<|aH<|ay J<|bk J<|so h▸lJ J J
def vj b p{R}(h:jw b p=some R):ir aV 116 [ep ((rI .u8)) b,tD lL p] false (rI .u8) 5 R:=by
 exact ir.of Tryz.func116 J J J fun w0 S0=>a8<|cz false (rI .u8) 5<|s (bZ u5)<|bp<|ay J<|aO J<|uE h Vo (Nj _ _ _) (eb J) fun r h l c=>bk J<|so h▸lJ J J
def JU b p{R}(h:jw b p=some R):dy aV 116 [ep ((rI .u8)) b,tD lL p] (ep ((rI .u8)) R):=(vj _ _ h).spec

def JT v{R}(h:pV v=some R):dy aV 177 [tD be v] (tT [ep ((rI .u8)) R.1,bA R.2]):=by
 refine eu Tryz.func177 J<|a8<|eG J<|kb ((rI .u8))<|cC<|bp<|bm<|eJ cO J<|iw h yp (qt _) (eb J) fun r h=>aW J<|ay J<|nW J<|dd h J (fun h=>?_) (fun h=>?_)
 ·exact ay J<|kb ((rI .u8))<|bk J<|aC<|so h▸ev J J J
 ·refine ji<|a8<|bz oU mS bS J<|s (eP kz sD (D J))<|ov (r:=(rI .u8)) (ys:=[(IntKind.u8.wrap v.Kind)]) (xs:=[.tmp 13]) gZ rk J J J J J ⟨(D J),d⟩ J fun l c=>aW J<|bm<|bz oU mS bS J<|bp<|aA<|a8<|bM J<|gU J<|aS ?_;refine aH<|iX h J (fun h=>?_) (fun h=>?_)
  ·refine av<|aO J<|bz pL po Mb J<|s (eP AC sD (D J))<|s (aY (r:=(rI .u8)) (ys:=[(IntKind.u8.wrap v.N)]) (xs:=[.tmp 22]) gZ rk J J J J J ⟨(D J),d⟩)<|bT h fun b q_b h=>cU rk J J J J gZ J J (D J) (D J) q_b fun l1 c1=>gU J<|aS<|aF<|aH<|ay J<|gU J<|fZ<|df<|bJ 2 J<|bJ 24 J<|bJ 5 J ?_;exact bJ 54 J<|fE 2 J<|ba<|so h▸ev J J J
  ·refine a8<|bM J<|aW J<|iX h J (fun h=>?_) (fun h=>?_)
   ·refine av<|aO J<|bz pL po Mb J<|s (eP AC xr (D J))<|vS<|s8 14 J<|s8 5 J<|s8 27 J<|uE h DU (vj _ _) ⟨(sf (D J)),(D J),d⟩ fun r1 h l2 c2=>gU J<|aS<|aF<|aH<|ay J<|gU J<|fZ<|df ?_;exact bJ 2 J<|bJ 5 J<|bJ 31 J<|bJ 54 J<|fE 2 J<|ba<|ba<|so h▸ev J J J
   ·refine a8<|bM J<|aW J<|iX h J (fun h=>?_) (fun h=>?_)
    ·refine bT h fun l3 q_l3 h=>?_
     refine ic 9 [tc (K (an l c (([(IntKind.u8.wrap v.Kind)]).length))),tc (cH rS v.S),tc (tD rS v.S),tc (nu v.S),tc (tD (rI .u8) (IntKind.u8.wrap (v.S.length:Int))),tc (ep ((rI .u8)) ([(IntKind.u8.wrap (v.S.length:Int))])),([6],fun ae=>K (an ((ae.getD 0 j8).h 0).1 ((ae.getD 0 j8).h 0).2 l3.length)),tc (cH rS v.S),tc (tD rS v.S)] [false,false,false,false,false,false,true,false,false] [fun _=>[cM (rI .u8) 5 l c ([(IntKind.u8.wrap v.Kind)])],fun sg=>[cM (rI .u8) 5 ((sg 6).h 0).1 ((sg 6).h 0).2 l3]] J mixed J J J J J
      ⟨⟨[⟨5,fun _=>K (an l c (([(IntKind.u8.wrap v.Kind)]).length)),none⟩],_,0,0,J,⟨(fun _=>J),d⟩,J,J,J,J,J,fun _ sg _ _=>ac J (m1 J)⟩,
      ⟨⟨[⟨1,fun _=>cH be v,none⟩],_,0,0,J,⟨(fun _=>J),d⟩,J,J,J,J,J,fun _ sg _ _=>ac J (uv yj tJ J J)⟩,
      ⟨⟨[⟨35,fun _=>cH rS v.S,some 1⟩],_,0,0,J,⟨(fun _=>J),d⟩,J,J,J,J,J,fun _ sg _ _=>ac J (AJ SS J J)⟩,
      ⟨⟨[⟨36,fun _=>tD rS v.S,some 2⟩],_,0,0,J,⟨(fun _=>J),d⟩,J,J,J,J,J,fun _ sg _ _=>ac J (JA AG (D J))⟩,
      ⟨⟨[⟨37,fun _=>tD bH (v.S.length:Int),some 3⟩],_,0,0,J,⟨(fun _=>J),d⟩,J,J,J,J,J,fun _ sg _ _=>ac J (eP kz sD (D J))⟩,
      ⟨⟨[⟨38,fun _=>tD (rI .u8) (IntKind.u8.wrap (v.S.length:Int)),some 4⟩],_,0,0,J,⟨(fun _=>J),d⟩,J,J,J,J,J,fun _ sg _ _=>ac J (aY (r:=(rI .u8)) (ys:=[(IntKind.u8.wrap (v.S.length:Int))]) (xs:=[.tmp 38]) gZ rk J J J J J ⟨(D J),d⟩)⟩,
      ⟨⟨[⟨34,fun _=>K (an l c (([(IntKind.u8.wrap v.Kind)]).length)),some 0⟩,⟨39,fun _=>tD Fq ([(IntKind.u8.wrap (v.S.length:Int))]),some 5⟩],_,J,⟨(fun _=>J),(fun _=>J),d⟩,J,J,J,fun sg=>cm J (rW rk J J J J gZ J (D J) (D J) q_l3)⟩,
      ⟨⟨[⟨1,fun _=>cH be v,none⟩],_,0,1,J,⟨(fun _=>J),d⟩,J,J,J,J,J,fun _ sg _ _=>ac J (uv yj tJ J J)⟩,
      ⟨⟨[⟨41,fun _=>cH rS v.S,some 7⟩],_,0,1,J,⟨(fun _=>J),d⟩,J,J,J,J,J,fun _ sg _ _=>ac J (AJ SS J J)⟩,
      d⟩⟩⟩⟩⟩⟩⟩⟩⟩ (fun sg=>?_)
     refine(show RG _ _ _ _ [_] _ from ?_);exact bT h fun b1 q_b1 h=>I2 rk J J gZ AG J (D J) (D J) q_b1 fun l4 c3=>gU J<|aS<|aF<|aH<|ay J<|gU J<|fZ<|df<|bJ 2 J<|bJ 43 J<|bJ 5 J<|bJ 54 J<|fE 2 J<|ba<|so h▸ev J J J
    ·refine a8<|bM J<|aW J<|iX h J (fun h=>?_) (fun h=>?_)
     ·refine LD<|Ci 14 J<|Ci 5 J<|bT h fun r2 q_r2 h=>bT h fun r3 q_r3 h=>?_
      refine jV (ts:=[_,_,_,_,_,_,_,_,_]) mixed J J
       ⟨gx J J,
       ⟨Ho 1 J J (uv pL po J J),
       ⟨sH 1 Mb J J,
       ⟨fm 48 2 J J (eP AC xr (D J)),
       ⟨jz 46 0 49 3 J J J (c7 DU (JU _ _ q_r2) ⟨(sf (D J)),(D J),d⟩),
       ⟨Ho 1 J J (uv EN By J J),
       ⟨sH 5 oA J J,
       ⟨jz 50 4 52 6 J J J (c7 DU (JU _ _ q_r3) ⟨(D J),(D J),d⟩),
       ⟨fm 53 7 J J (Hp J),
       d⟩⟩⟩⟩⟩⟩⟩⟩⟩ ?_
      exact aF<|aH<|ay J<|gU J<|fZ<|ba<|so h▸ev J J J
     ·exact bD<|aF<|aH<|ay J<|gU J<|fZ<|df<|bJ 2 J<|bJ 14 J<|bJ 5 J<|bJ 54 J<|fE 2 J<|ba<|so h▸ev J J J

def ET(b:Nat)(ix:OI) w1 e{R}(h:gJ w1 e=some R):bd aV 130 [K (M b 0),tD cD e] (ea b w1 ix) (fun _:OI=>tT []) (fun j=>ea b R j):=by
 refine bd.of Tryz.func130 J J J fun w0 S0=>?_;refine(show CG _ _ _ [Z (rH cr [(0,an (ix.h 0).1 (ix.h 0).2 w1.bytes.length)]) 60 b w1,tip (rI .u8) 5 (ix.h 0).1 (ix.h 0).2 w1.bytes] _ from ?_);refine a8<|eG J<|bp<|aP<|bT h fun r q_r h=>?_
 refine ic 10 [tc (K (M b 0)),tc (K (M b 0)),tc (K (M b 0)),tc (K (M b 0)),tc (tO (rI .u8) (ix.h 0).1 (ix.h 0).2 w1.bytes),tc (cH (gr bq) e.Nodes),tc (ep (bq) e.Nodes),tc (nu e.Nodes),tc (tD Fp (IntKind.u16.wrap (e.Nodes.length:Int))),([9],fun ae=>tO (rI .u8) ((ae.getD 0 j8).h 0).1 ((ae.getD 0 j8).h 0).2 r)] [false,false,false,false,false,false,false,false,false,true] [fun _=>[Z (rH cr [(0,an (ix.h 0).1 (ix.h 0).2 w1.bytes.length)]) 60 b w1,tip (rI .u8) 5 (ix.h 0).1 (ix.h 0).2 w1.bytes],fun sg=>[tip (rI .u8) 5 ((sg 9).h 0).1 ((sg 9).h 0).2 r,Z (rH cr [(0,an (ix.h 0).1 (ix.h 0).2 w1.bytes.length)]) 60 b w1,tip (rI .u8) 5 (ix.h 0).1 (ix.h 0).2 w1.bytes]] J mixed J J J J J
  ⟨⟨[⟨0,fun _=>K (M b 0),none⟩],_,0,1,J,⟨(fun _=>J),d⟩,J,J,J,J,J,fun _ sg _ _=>ac J (m1 J)⟩,
  ⟨⟨[⟨0,fun _=>K (M b 0),none⟩],_,0,0,J,⟨(fun _=>J),d⟩,J,J,J,J,J,fun _ sg _ _=>ac J (m1 J)⟩,
  ⟨⟨[⟨9,fun _=>K (M b 0),some 1⟩],_,0,0,J,⟨(fun _=>J),d⟩,J,J,J,J,J,fun _ sg _ _=>ac J (aD (D J))⟩,
  ⟨⟨[⟨10,fun _=>K (M b 0),some 2⟩],_,0,0,J,⟨(fun _=>J),d⟩,J,J,J,J,J,fun _ sg _ _=>ac J (oz 0 mj J J J)⟩,
  ⟨⟨[⟨11,fun _=>K (M b 0),some 3⟩],_,0,0,J,⟨(fun _=>J),d⟩,J,J,J,J,J,mC (fun sg=>ac J (lc ny J (.head _) (.tail _ (.head _)) (D J)))⟩,
  ⟨⟨[⟨3,fun _=>cH cD e,none⟩],_,0,0,J,⟨(fun _=>J),d⟩,J,J,J,J,J,fun _ sg _ _=>ac J (uv ra lk J J)⟩,
  ⟨⟨[⟨13,fun _=>cH (gr bq) e.Nodes,some 5⟩],_,0,0,J,⟨(fun _=>J),d⟩,J,J,J,J,J,fun _ sg _ _=>ac J (AJ AS J J)⟩,
  ⟨⟨[⟨14,fun _=>tD (gr bq) e.Nodes,some 6⟩],_,0,0,J,⟨(fun _=>J),d⟩,J,J,J,J,J,fun _ sg _ _=>ac J (QK sE J)⟩,
  ⟨⟨[⟨15,fun _=>tD bH (e.Nodes.length:Int),some 7⟩],_,0,0,J,⟨(fun _=>J),d⟩,J,J,J,J,J,fun _ sg _ _=>ac J (eP kz Fg (D J))⟩,
  ⟨⟨[⟨12,fun _=>tO (rI .u8) (ix.h 0).1 (ix.h 0).2 w1.bytes,some 4⟩,⟨16,fun _=>tD Fp (IntKind.u16.wrap (e.Nodes.length:Int)),some 8⟩],_,J,⟨(fun _=>J),(fun _=>J),d⟩,J,J,J,fun sg=>cm J (s5 (xs:=[.tmp 12,.tmp 16]) (ts:=[tD Fq w1.bytes,tD Fp (IntKind.u16.wrap (e.Nodes.length:Int))]) QC (GI _ _ q_r) ⟨(sf (D J)),(D J),d⟩)⟩,
  d⟩⟩⟩⟩⟩⟩⟩⟩⟩⟩ (fun sg=>?_)
 refine(show RG _ _ _ _ [_,_,_] _ from ?_);refine s (aD (D J))<|aX 0 mj J<|d6 (EffOK.fr1 (kJ (hs' :=[(0,an ((sg 9).h 0).1 ((sg 9).h 0).2 r.length)]) (u:=an ((sg 9).h 0).1 ((sg 9).h 0).2 r.length) ny J J ly J ⟨.inl ⟨J,J,J⟩,d⟩ (D J) (sf (D J)) (z7 (D J)))) fun i=>?_;refine(show RG _ _ _ _ [_,_,_] _ from ?_);refine cL<|yx<|bp<|a8<|bz ra lk AS J<|cw sE J<|s (bU hI)<|bp<|aA<|bt (k:=21) J fun hN=>bV ?_;refine aT (lS (bx:=fun ls i1 ob l c=>(e.Nodes.drop i1=ls)/\dk ls ob=some R) (Of:=fun _ i1 ob l c=>[Z (rH cr [(0,an l c ob.bytes.length)]) 60 b ob,tip (rI .u8) 5 l c ob.bytes]) (Gf:=fun _ i1 ob l c=>[(0,K (M b 0)),(21,ep (bq) e.Nodes),(22,nu e.Nodes),(23,bA (i1:Int))]) (fun i1 ob l c h=>?_) (fun e1 tl ih i1 ob l c h=>?_) e.Nodes 0 ({w1 with bytes:=r}:aL) ((sg 9).h 0).1 ((sg 9).h 0).2 ⟨J,h⟩) (bj J)
 ·obtain⟨V,h⟩:=h
  exact ft V J<|aj<|aj<|so h▸dW J (o5 [(l,c)]) J J
 ·obtain⟨V,h⟩:=h
  refine fq V J<|aP<|aA<|a8<|fP sE jd J (eo V)<|bw jd qO J fun b1=>bG jd aB J<|bg 5 J<|bp<|ay J ?_;refine bz kU ff bS J<|s (aY (r:=bH) (ys:=[e1.Tag]) (xs:=[.tmp 29]) er bS J J J J J ⟨(D J),d⟩)<|bT h fun r1 q_r1 h=>aR (EffOK.fr1 (EffOK.fr1 (au (xs:=[.tmp 27,.tmp 30]) (ts:=[K (M b 0),nj ([e1.Tag])]) (ea b ob (o5 [(l,c)])) _ J uu (o7 b (o5 [(l,c)]) ob _ q_r1) ⟨(D J),(D J),d⟩ (fun _=>J)))) J fun i2=>?_;refine(show RG _ _ _ _ [_,_] ((31,tT [])::_)from ?_);refine bp<|a8<|bz kU ff bS J<|bp<|aA<|a8<|bM J<|aW J<|iX h J (fun h=>?_) (fun h=>?_)
  ·refine av<|aO J<|bz rO mW bS J<|s (aY (r:=bH) (ys:=[e1.Col]) (xs:=[.tmp 38]) er bS J J J J J ⟨(D J),d⟩)<|bT h fun r2 q_r2 h=>aR (EffOK.fr1 (EffOK.fr1 (au (xs:=[.tmp 36,.tmp 39]) (ts:=[K (M b 0),nj ([e1.Col])]) (ea b r1 i2) _ J uu (o7 b i2 r1 _ q_r2) ⟨(D J),(D J),d⟩ (fun _=>J)))) J fun i3=>?_;refine(show RG _ _ _ _ [_,_] ((40,tT [])::_)from ?_);refine aS<|aF<|dY V hN J ?_;exact bf (aT (ih (i1+1) r2 (i3.h 0).1 (i3.h 0).2 ⟨dO V,h⟩) (bj J))
  ·refine a8<|bM J<|aW J<|iX h J (fun h=>?_) (fun h=>?_)
   ·refine a8<|bz vM pq cO J<|iw h QA (JT _) (eb J) fun r3 h=>aO J<|eF J J<|eF J J<|gU J<|aW J<|av<|aO J<|aO J<|s (aD (D J))<|aX 0 mj J<|s (lc ny J (.head _) (.tail _ (.head _)) (D J))<|aO J<|cu<|bT h fun l1 q_l1 h=>t6 rk J J J J gZ J J (D J) (D J) q_l1 fun l2 c1=>s (aD (D J)) ?_;refine aX 0 mj J<|d6 (EffOK.fr1 (kJ (hs' :=[(0,an l2 c1 l1.length)]) (u:=an l2 c1 l1.length) ny J J ly J ⟨.inl ⟨J,J,J⟩,d⟩ (D J) (sf (D J)) (z7 (D J)))) fun i4=>?_;refine(show RG _ _ _ _ [_,_] _ from ?_);refine aS<|aF<|dY V hN J ?_;exact bf (aT (ih (i1+1) ({r1 with bytes:=l1}:aL) l2 c1 ⟨dO V,h⟩) (bj J))
   ·refine bD<|aF<|dY V hN J ?_;exact bf (aT (ih (i1+1) r1 (i2.h 0).1 (i2.h 0).2 ⟨dO V,h⟩) (bj J))

def T4(b:Nat)(ix:OI) w1 n{R}(h:gH w1 n=some R):bd aV 85 [K (M b 0),tD bc n] (ea b w1 ix) (fun _:OI=>tT []) (fun j=>ea b R j):=by
 refine bd.of Tryz.func85 J J J fun w0 S0=>?_;refine(show CG _ _ _ [Z (rH cr [(0,an (ix.h 0).1 (ix.h 0).2 w1.bytes.length)]) 60 b w1,tip (rI .u8) 5 (ix.h 0).1 (ix.h 0).2 w1.bytes] _ from ?_);refine a8<|eG J<|bp<|ay J<|bz BD tK yM J<|bT h fun r q_r h=>aR (EffOK.fr1 (EffOK.fr1 (au (xs:=[.tmp 4,.tmp 6]) (ts:=[K (M b 0),gw n.Left]) (ea b w1 ix) _ J PN (JP b ix w1 _ q_r) ⟨(D J),(D J),d⟩ (fun _=>J)))) J fun i=>?_;refine(show RG _ _ _ _ [_,_] ((7,tT [])::_)from ?_);refine bp<|av<|aO J<|bz tM nR kX J<|bT h fun r1 q_r1 h=>aR (EffOK.fr1 (EffOK.fr1 (au (xs:=[.tmp 8,.tmp 10]) (ts:=[K (M b 0),tD cD n.Cond]) (ea b r i) _ J J3 (ET b i r _ q_r1) ⟨(D J),(D J),d⟩ (fun _=>J)))) J fun i1=>?_;refine(show RG _ _ _ _ [_,_] ((11,tT [])::_)from ?_);exact aS<|aj<|aj<|so h▸dW J i1 J J

def T0(b:Nat)(ix:OI) w1 n{R}(h:fI w1 n=some R):bd aV 86 [K (M b 0),tD bc n] (ea b w1 ix) (fun _:OI=>tT []) (fun j=>ea b R j):=by
 refine bd.of Tryz.func86 J J J fun w0 S0=>?_;refine(show CG _ _ _ [Z (rH cr [(0,an (ix.h 0).1 (ix.h 0).2 w1.bytes.length)]) 60 b w1,tip (rI .u8) 5 (ix.h 0).1 (ix.h 0).2 w1.bytes] _ from ?_);refine a8<|eG J<|bp<|av<|aO J<|bz tM nR kX J<|bT h fun r q_r h=>aR (EffOK.fr1 (EffOK.fr1 (au (xs:=[.tmp 4,.tmp 6]) (ts:=[K (M b 0),tD cD n.Cond]) (ea b w1 ix) _ J J3 (ET b ix w1 _ q_r) ⟨(D J),(D J),d⟩ (fun _=>J)))) J fun i=>?_;refine(show RG _ _ _ _ [_,_] ((7,tT [])::_)from ?_);exact aS<|aj<|aj<|so h▸dW J i J J

def M5(b:Nat)(ix:OI) w1 n{R}(h:dw w1 n=some R):bd aV 87 [K (M b 0),tD bc n] (ea b w1 ix) (fun _:OI=>tT []) (fun j=>ea b R j):=by
 refine bd.of Tryz.func87 J J J fun w0 S0=>?_;refine(show CG _ _ _ [Z (rH cr [(0,an (ix.h 0).1 (ix.h 0).2 w1.bytes.length)]) 60 b w1,tip (rI .u8) 5 (ix.h 0).1 (ix.h 0).2 w1.bytes] _ from ?_);refine a8<|eG J<|bp<|ay J<|bz oT iq cF J<|bT h fun r q_r h=>aR (EffOK.fr1 (EffOK.fr1 (au (xs:=[.tmp 6,.tmp 8]) (ts:=[K (M b 0),nj n.Keys]) (ea b w1 ix) _ J SI (M4 b ix w1 _ q_r) ⟨(D J),(D J),d⟩ (fun _=>J)))) J fun i=>?_;refine(show RG _ _ _ _ [_,_] ((9,tT [])::_)from ?_);refine bp<|ay J<|bz nr gc vY J<|cw p7 J<|s (aY (r:=bH) (ys:=[(n.Aggs.length:Int)]) (xs:=[.tmp 13]) er bS J J J J J ⟨(D J),d⟩)<|bT h fun r1 q_r1 h=>aR (EffOK.fr1 (EffOK.fr1 (au (xs:=[.tmp 10,.tmp 14]) (ts:=[K (M b 0),nj ([(n.Aggs.length:Int)])]) (ea b r i) _ J uu (o7 b i r _ q_r1) ⟨(D J),(D J),d⟩ (fun _=>J)))) J fun i1=>?_;refine(show RG _ _ _ _ [_,_] ((15,tT [])::_)from ?_);refine bp<|a8<|bz nr gc vY J<|cw p7 J<|s (bU hI)<|bp<|aA<|bt (k:=17) J fun hN=>bV ?_;refine aT (lS (bx:=fun ls i2 ob l c=>(n.Aggs.drop i2=ls)/\fN ls ob=some R) (Of:=fun _ i2 ob l c=>[Z (rH cr [(0,an l c ob.bytes.length)]) 60 b ob,tip (rI .u8) 5 l c ob.bytes]) (Gf:=fun _ i2 ob l c=>[(0,K (M b 0)),(17,ep (eV) n.Aggs),(18,nu n.Aggs),(19,bA (i2:Int))]) (fun i2 ob l c h=>?_) (fun e tl ih i2 ob l c h=>?_) n.Aggs 0 r1 (i1.h 0).1 (i1.h 0).2 ⟨J,h⟩) (bj J)
 ·obtain⟨V,h⟩:=h
  exact ft V J<|aj<|aj<|so h▸dW J (o5 [(l,c)]) J J
 ·obtain⟨V,h⟩:=h
  refine fq V J<|aP<|aA<|a8<|fP p7 kc J (eo V)<|bw kc tm J fun b1=>bG kc aB J<|bg 5 J<|bp<|ay J ?_;refine bz nh ll bS J<|s (aY (r:=bH) (ys:=[e.Tag]) (xs:=[.tmp 25]) er bS J J J J J ⟨(D J),d⟩)<|bT h fun r2 q_r2 h=>aR (EffOK.fr1 (EffOK.fr1 (au (xs:=[.tmp 23,.tmp 26]) (ts:=[K (M b 0),nj ([e.Tag])]) (ea b ob (o5 [(l,c)])) _ J uu (o7 b (o5 [(l,c)]) ob _ q_r2) ⟨(D J),(D J),d⟩ (fun _=>J)))) J fun i3=>?_;refine(show RG _ _ _ _ [_,_] ((27,tT [])::_)from ?_);refine bp<|av<|aO J<|bz rR pT kX J<|bT h fun r3 q_r3 h=>aR (EffOK.fr1 (EffOK.fr1 (au (xs:=[.tmp 28,.tmp 30]) (ts:=[K (M b 0),tD cD e.Arg]) (ea b r2 i3) _ J J3 (ET b i3 r2 _ q_r3) ⟨(D J),(D J),d⟩ (fun _=>J)))) J fun i4=>?_;refine(show RG _ _ _ _ [_,_] ((31,tT [])::_)from ?_);refine aS<|dY V hN J ?_;exact bf (aT (ih (i2+1) r3 (i4.h 0).1 (i4.h 0).2 ⟨dO V,h⟩) (bj J))

def TZ(b:Nat)(ix:OI) w1 n{R}(h:fd w1 n=some R):bd aV 88 [K (M b 0),tD bc n] (ea b w1 ix) (fun _:OI=>tT []) (fun j=>ea b R j):=by
 refine bd.of Tryz.func88 J J J fun w0 S0=>?_;refine(show CG _ _ _ [Z (rH cr [(0,an (ix.h 0).1 (ix.h 0).2 w1.bytes.length)]) 60 b w1,tip (rI .u8) 5 (ix.h 0).1 (ix.h 0).2 w1.bytes] _ from ?_);refine a8<|eG J<|bp<|ay J<|bz w8 pp HA J<|cw yI J<|s (aY (r:=bH) (ys:=[(n.Items.length:Int)]) (xs:=[.tmp 9]) er bS J J J J J ⟨(D J),d⟩)<|bT h fun r q_r h=>aR (EffOK.fr1 (EffOK.fr1 (au (xs:=[.tmp 6,.tmp 10]) (ts:=[K (M b 0),nj ([(n.Items.length:Int)])]) (ea b w1 ix) _ J uu (o7 b ix w1 _ q_r) ⟨(D J),(D J),d⟩ (fun _=>J)))) J fun i=>?_;refine(show RG _ _ _ _ [_,_] ((11,tT [])::_)from ?_);refine bp<|a8<|bz w8 pp HA J<|cw yI J<|s (bU hI)<|bp<|aA<|bt (k:=13) J fun hN=>bV ?_;refine aT (lS (bx:=fun ls i1 ob l c=>(n.Items.drop i1=ls)/\eY ls ob=some R) (Of:=fun _ i1 ob l c=>[Z (rH cr [(0,an l c ob.bytes.length)]) 60 b ob,tip (rI .u8) 5 l c ob.bytes]) (Gf:=fun _ i1 ob l c=>[(0,K (M b 0)),(13,ep (cD) n.Items),(14,nu n.Items),(15,bA (i1:Int))]) (fun i1 ob l c h=>?_) (fun e tl ih i1 ob l c h=>?_) n.Items 0 r (i.h 0).1 (i.h 0).2 ⟨J,h⟩) (bj J)
 ·obtain⟨V,h⟩:=h
  exact ft V J<|aj<|aj<|so h▸dW J (o5 [(l,c)]) J J
 ·obtain⟨V,h⟩:=h
  refine fq V J<|aP<|aA<|a8<|fP yI kX J (eo V)<|bw kX rr J fun b1=>bG kX aB J<|bg 5 J<|bp<|av<|aO J<|eJ kX J ?_;refine bT h fun r1 q_r1 h=>aR (EffOK.fr1 (EffOK.fr1 (au (xs:=[.tmp 19,.tmp 20]) (ts:=[K (M b 0),tD cD e]) (ea b ob (o5 [(l,c)])) _ J J3 (ET b (o5 [(l,c)]) ob _ q_r1) ⟨(D J),(D J),d⟩ (fun _=>J)))) J fun i2=>?_;refine(show RG _ _ _ _ [_,_] ((21,tT [])::_)from ?_);refine aS<|dY V hN J ?_;exact bf (aT (ih (i1+1) r1 (i2.h 0).1 (i2.h 0).2 ⟨dO V,h⟩) (bj J))

end Go.Proofs.YtdohlidddcgfjaaGreat

