/- cP of this claim: P1. -/
import Derived.Test.YtbmmihfagmchaaaGreatRbT
import Derived.Test.YtbmmihfagmchaaaGreatRbP0
set_option linter.all false
namespace Go.Proofs.YtbmmihfagmchaaaGreat
open Go
set_option maxRecDepth 100000

def AI e{R}(h:l0 e=some R):cI bk 24 [H ah e] (cA R):=by
 refine eC Tryz.func24 M<|aV<|dn M<|da<|cb<|bm<|bA aX M<|eg h QO (Kr _) (cm M) fun r h=>bu M<|bS M M<|bS M M<|jm M<|aT M<|aY M<|K (jn (D M)) ?_;refine dq h M (fun h=>?_) (fun h=>?_)
 ·exact aV<|fK<|au<|so h▸bZ M M
 ·exact ko<|aV<|fK<|so h▸bZ M M

def NL(l:Option Nat)(c:Nat) s{R}(h:gw s=some R):fg bk 51 [sO l c s] [fi cB 3 l c s] (fun i:OI=>sO (i.h 0).1 (i.h 0).2 R) (fun i=>[fi cB 3 (i.h 0).1 (i.h 0).2 R]):=by
 refine fg.of Tryz.func51 M M M fun w0 S0=>aV<|bC false cB 3<|K (bz sD)<|cb<|bm<|bu M<|K (eU fS (.tail _ (.head _)) (D M))<|K (mE (D M) hI)<|dq h M (fun h=>?_) (fun h=>?_)
 ·exact aY M<|bF M<|au<|aM<|so h▸mY M (oi l c) M M (fun _ _ h=>h)
 ·refine ko<|bm<|da<|cb<|av<|fR (.tail _ (.head _)) fun hN=>ci<|oz ?_;refine aN (kX (h3:=fun ls i=>(s.drop i=ls)/\ef s ls i=some R) (Of:=fun _ i=>[fi cB 3 l c s]) (Gf:=fun _ i=>[(0,sO l c s),(3,cA (i:Int))]) (fun i h=>?_) (fun e tl ih i h=>?_) (s.drop (1)) 1 ⟨M,h⟩) (bv M)
  ·obtain⟨I,h⟩:=h
   exact kf<|bm<|bu M<|bu M<|K (eU fS (.head _) (D M))<|zB M<|cb<|xn (D M) (NP I)<|il<|aL<|aL<|dM<|aB<|aY M<|bF M<|so h▸mY M (oi l c) M M (fun _ _ h=>h)
  ·obtain⟨I,h⟩:=h
   refine kf<|bm<|bu M<|bu M<|K (eU fS (.head _) (D M))<|zB M<|cb<|xm (D M) (KO I)<|ko<|aJ<|av<|aJ<|cy h fun e1 q_e1 h=>?_
   refine im (ts:=[_,_,_,_,_,_,_,_,_,_]) mixed M M
    ⟨jt M M,
    ⟨jt M M,
    ⟨gr 16 0 17 1 M M M (bW fS cn (.head _) (D M) (D M) (fz I)),
    ⟨eH 18 2 M M (dd (r:=cB) (i:=(i:Int)) (foff:=0) cn M M bN M (.head _) (fz I) (D M)),
    ⟨jt M M,
    ⟨jt M M,
    ⟨eH 21 5 M M (fN (D M) hI),
    ⟨gr 20 4 22 6 M M M (bW fS cn (.head _) (D M) (D M) q_e1),
    ⟨eH 23 7 M M (dd (r:=cB) (i:=(IntKind.i64.wrap ((i:Int)-(1:Int)))) (foff:=0) cn M M bN M (.head _) q_e1 (D M)),
    ⟨gr 19 3 24 8 M M M (jP (D M) (D M)),
    aQ⟩⟩⟩⟩⟩⟩⟩⟩⟩⟩ ?_
   refine aB<|o8 h M (fun h=>?_) (fun h=>?_)
   ·refine aY M<|bu M<|cy h fun y q_y h=>K (pB fS cn M (.head _) (D M) (D M) q_y)<|ox (.head _) q_y fun hv=>aT M<|bm<|da<|cb<|av<|ci ?_;refine aN (HJ (h3:=fun k1 i1 s1 k=>(y.length-i1=k1)/\dz i y k1 i1 s1 k=some R) (Of:=fun _ i1 s1 k=>[fi cB 3 l c s1]) (Gf:=fun _ i1 s1 k=>[(0,sO l c s1),(3,cA k),(4,tV (mJ 1 l c (i:Int).toNat y.length)),(5,cA (i1:Int))]) (fun i1 s1 k h=>?_) (fun k2 ih1 i1 s1 k h=>?_) (y.length-1) 1 s (i:Int) ⟨M,h⟩) (bv M)
    ·obtain⟨hx1,h⟩:=h
     refine kf<|bm<|bu M<|bu M<|K (Hc fS hv.1 (D M))<|zB M<|cb<|xn (D M) (Qm hx1)<|il<|aL<|aL<|dM<|aB<|aY M<|bu M<|cy h fun y1 q_y1 h=>K (pB fS cn M (.head _) (D M) (D M) q_y1)<|ox (.head _) q_y1 fun hv1=>cy h fun cl q_cl h=>?_;exact IQ cn M M fS (fun _=>M) M q_y1 (D M) (so q_cl)<|gm (Ce q_y1 (so q_cl)) 0 M<|gm (Ce q_y1 (so q_cl)) 54 M<|cb<|aY M<|bu M<|cy h fun y2 q_y2 h=>K (nu fS cn M (.head _) (D M) (D M) q_y2)<|yg q_y2<|bF M<|eX<|au<|eX<|so h▸mY M (oi l c) M M (fun _ _ h=>h)
    ·obtain⟨hx1,h⟩:=h
     refine kf<|bm<|bu M<|bu M<|K (Hc fS hv.1 (D M))<|zB M<|cb<|xm (D M) (Ql hx1)<|ko<|aJ<|av<|aJ<|cy h fun e3 q_e3 h=>cy h fun e4 q_e4 h=>?_
     refine im (ts:=[_,_,_,_,_,_,_,_,_,_]) mixed M M
      ⟨jt M M,
      ⟨jt M M,
      ⟨gr 35 0 36 1 M M M (rR fS cn M (.head _) (xB q_y) (D M) (D M) q_e3),
      ⟨eH 37 2 M M (dd (r:=cB) (i:=((i:Int)+(i1:Int))) (foff:=0) cn M M bN M (.head _) (uT q_e3).2.2 (D M)),
      ⟨jt M M,
      ⟨jt M M,
      ⟨eH 40 5 M M (fN (D M) hI),
      ⟨gr 39 4 41 6 M M M (rR fS cn M (.head _) (xB q_y) (D M) (D M) q_e4),
      ⟨eH 42 7 M M (dd (r:=cB) (i:=((i:Int)+(IntKind.i64.wrap ((i1:Int)-(1:Int))))) (foff:=0) cn M M bN M (.head _) (uT q_e4).2.2 (D M)),
      ⟨gr 38 3 43 8 M M M (mn (D M) (D M)),
      aQ⟩⟩⟩⟩⟩⟩⟩⟩⟩⟩ ?_
     refine aB<|o8 h M (fun h=>?_) (fun h=>?_)
     ·refine aY M<|bu M<|bu M<|bu M<|cy h fun e5 q_e5 h=>K (rR fS cn M (.head _) (xB q_y) (D M) (D M) q_e5)<|K (dd (r:=cB) (i:=((i:Int)+(i1:Int))) (foff:=0) cn M M bN M (.head _) (uT q_e5).2.2 (D M))<|cy h fun e6 q_e6 h=>K (bW fS cn (.head _) (D M) (D M) q_e6)<|cy h fun st q_st h=>ke cn M ae M q_e6 (so q_st) (D M) (D M)<|gm (dU (so q_st)) 0 M<|gm (dU (so q_st)) 45 M<|cb<|aG<|bu M<|K (lr (D M) hI)<|jm M<|bq<|bh<|aB ?_;refine aG<|bu M<|K (wP (LW hx1 (Qo hv.2)) (D M) hI)<|jm M<|bq ?_;exact bj (aN (ih1 (i1+1) st (IntKind.i64.wrap (k+(1:Int))) ⟨LV hx1,h⟩) (bv M))
     ·refine cg<|bh<|aB<|aG<|bu M<|K (wP (LW hx1 (Qo hv.2)) (D M) hI)<|jm M<|bq ?_;exact bj (aN (ih1 (i1+1) s1 k ⟨LV hx1,h⟩) (bv M))
   ·refine cg<|PL I hN M ?_;exact bj (aN (ih (i+1) ⟨dC I,h⟩) (bv M))

def C3 e{R}(h:kb e=some R):gk bk 56 [H ah e] false cB 3 R:=by
 refine gk.of Tryz.func56 M M M fun w0 S0=>aV<|dn M<|bC false cB 3<|K (bz sD)<|cb<|bm<|bA aX M<|eg h KX (AI _) (cm M) fun r h=>jS M<|dq h M (fun h=>?_) (fun h=>?_)
 ·exact aV<|bC false cB 3<|K (bz sD)<|dG<|au<|so h▸gn M M
 ·refine ko<|aV<|bC false cB 3<|K (bz sD)<|cb<|bm<|ca dk cE iY M<|c9 gp M<|K (cj hI)<|cb<|av<|bE (k:=10) M fun hN=>ci<|cX<|oz ?_;refine aN (pK (h3:=fun ls i out l c=>(e.Nodes.drop i=ls)/\ii ls out=some R) (Of:=fun _ i out l c=>[fi cB 3 l c out]) (Gf:=fun _ i out l c=>[(3,sO l c out),(10,gP (ap) e.Nodes),(11,jq e.Nodes),(12,cA (i:Int))]) (fun i out l c h=>?_) (fun e1 tl ih i out l c h=>?_) e.Nodes 0 xw none 0 ⟨M,h⟩) (bv M)
  ·obtain⟨I,h⟩:=h
   refine eQ I M<|aB<|aY M<|cy h fun srt q_srt h=>?_;refine Fb (n:=out.length) (ys:=srt) xf ?_ QQ ?_ ?_ ?_ ?_ ?_
   ·rfl
   ·exact q_srt
   ·exact(D M)
   ·rfl
   ·rfl
   intro hl
   refine xj hl 3 M<|xj hl 25 M<|cb<|aY M<|cy h fun r1 q_r1 h=>uC [fi cB 3 l c srt] _ M QP (NL l c _ q_r1) ⟨(D M),aQ⟩ M fun i1=>?_;refine(show RG _ _ _ _ [_] ((28,sO (i1.h 0).1 (i1.h 0).2 r1)::_)from ?_);exact bF M<|so h▸gn M M
  ·obtain⟨I,h⟩:=h
   refine eP I M<|aJ<|av<|aV<|iq gp eY M (fz I)<|aC eY ip M fun b=>aO eY ae M<|aD 5 M<|cb<|aV<|oE lv ep M ?_;refine bA cn M<|dg M<|dq h M (fun h=>?_) (fun h=>?_)
   ·refine aG<|bu M<|ca oW gY cn M<|K (aR (r:=cB) (ys:=[e1.Col]) (xs:=[.tmp 21]) fS cn M M M M M ⟨(D M),aQ⟩)<|cy h fun out1 q_out1 h=>dm cn M M M M fS M M (D M) (D M) q_out1 fun l2 c2=>jm M<|bq<|dQ I hN M ?_;exact bj (aN (ih (i+1) out1 l2 c2 ⟨dC I,h⟩) (bv M))
   ·refine cg<|dQ I hN M ?_;exact bj (aN (ih (i+1) out l c ⟨dC I,h⟩) (bv M))
def C5 s{R}(h:co s=some R):gk bk 44 [lI s] false cB 3 R:=by
 refine gk.of Tryz.func44 M M M fun w0 S0=>aV<|bC false cB 3<|K (bz sD)<|cb<|bm<|bu M<|uB fS (D M) M fun isnil hisnil=>cb<|pl (D M) (fun hc=>?_) (fun hc=>?_)
 ·have I:=hisnil hc
  have h:some xw=some R:=by simpa [co,jp,I] using h
  exact aV<|bC false cB 3<|K (bz sD)<|dG<|au<|so h▸gn M M
 ·exact ko<|aV<|fh (r:=cB) (ys:=xw) (xs:=[]) fS cn M M M M M trivial M fun l c=>bu M<|cy h fun x q_x h=>dm cn M M M M fS M M (D M) (D M) q_x fun l1 c1=>bF M<|so h▸gn M M
def Kt s{R}(h:co s=some R):cI bk 44 [lI s] (lI R):=(C5 _ h).spec

def QF{l:Option Nat}{c:Nat}{xs s:List Int}{lo:Int}{R}(hs:db xs lo (xs.length:Int)=some s)(h:co s=some R):fg bk 44 [tV (mJ 1 l c lo.toNat s.length)] [fi cB 3 l c xs] (fun i:OI=>sO (i.h 0).1 (i.h 0).2 R) (fun i=>[fi cB 3 (i.h 0).1 (i.h 0).2 R,fi cB 3 l c xs]):=by
 refine fg.of Tryz.func44 M M M fun w0 S0=>aV<|K (bz sD)<|cb<|bm<|bu M<|Cj (r:=cB) fS (.head _) hs (D M) M fun isnil hisnil=>cb<|pl (D M) (fun hc=>?_) (fun hc=>?_)
 ·have I:=hisnil hc
  have h:some xw=some R:=by simpa [co,jp,I] using h
  exact aV<|bC false cB 3<|K (bz sD)<|dG<|au<|so h▸mY M (oi none 0) M M (fun _ _ h=>h)
 ·exact ko<|aV<|fh (r:=cB) (ys:=xw) (xs:=[]) fS cn M M M M M trivial M fun l1 c1=>bu M<|cy h fun x q_x h=>AX cn M M M M fS M M (D M) (.tail _ (.head _)) hs (D M) q_x fun l2 c2=>bF M<|so h▸mY M (oi l2 c2) M M (fun _ _ h=>h)

def Pd(b:Nat)(l:Option Nat)(c:Nat) stack k{R}(h:m6 stack k=some R):fg bk 158 [cA k,tV (ax b 0)] [bx rV 23 b (aK l c stack.length),fi cB 3 l c stack] (fun i:OI=>lI R.1) (fun i=>[bx rV 23 b (aK (i.h 0).1 (i.h 0).2 R.2.length),fi cB 3 (i.h 0).1 (i.h 0).2 R.2]):=by
 refine fg.of Tryz.func158 M M M fun w0 S0=>aV<|oF cB<|cb<|aV<|K (kS eM (.head _) (D M))<|K (kS eM (.head _) (D M))<|K (eU fS (.tail _ (.head _)) (D M))<|bu M<|K (fN (D M) (D M))<|cy h fun y q_y h=>K (pB fS cn M (.tail _ (.head _)) (D M) (D M) q_y)<|ox (.tail _ (.head _)) q_y fun hv=>aS<|cy h fun r q_r h=>uC [fi cB 3 l c stack] _ M KV (QF q_y q_r) ⟨(D M),aQ⟩ M fun i=>?_;refine(show RG _ _ _ _ [_,_,_] _ from ?_);refine aT M<|aV<|K (kS eM (.tail _ (.tail _ (.head _))) (D M))<|K (kS eM (.tail _ (.tail _ (.head _))) (D M))<|K (eU fS (.tail _ (.head _)) (D M))<|bu M<|K (fN (D M) (D M))<|cy h fun y1 q_y1 h=>K (nu fS cn M (.tail _ (.head _)) (D M) (D M) q_y1)<|aS<|yg q_y1<|dl<|cW eM M ae M (D M) (Bx (D M))<|cb<|aY M<|aT M ?_;exact lz<|aH<|o6<|fC 3 M<|fC 11 M<|fC 4 M<|fC 18 M<|o7 3 M<|aM<|bp<|bp<|so h▸mY M (oi l c) M M (fun _ _ h=>h)

def My e do1{R}(h:mV e do1=some R):cI bk 151 [H ah e,(kq bk Lw Lt (fun(x:aj×(List Int))=>do1 x.1 x.2))] (tT [cA R.1,cA R.2]):=by
 refine eC Tryz.func151 M<|aV<|dn M<|da<|da<|cb<|A6<|aV<|bC false cB 3<|aC (x:=aK none 0 0) eM (fun _=>Jz) M fun b=>cb<|aV<|da<|cb<|aV<|K (Ed (cts:=[tV (ax b 0)]) (caps:=[.tmp 6]) ⟨(D M),aQ⟩)<|jm M ?_;refine cb<|aV<|da<|cb<|aJ<|A7<|aB<|bm<|ca dk cE iY M<|c9 gp M<|K (cj hI)<|cb ?_;refine Cn (h3:=fun bad stack l c=>j7 bad stack=some R) (Of:=fun bad stack l c=>[bx rV 23 b (aK l c stack.length),fi cB 3 l c stack]) (Gf:=fun bad stack l c=>[(6,tV (ax b 0)),(7,cA 0),(9,cA bad)]) (fun bad stack l c h=>?_) (fun af=>?_)
 ·skip
  refine aB<|bm<|bu M<|jS M<|dq h M (fun h=>?_) (fun h=>?_)
  ·exact aY M<|bu M<|jm M<|bF M<|au<|qo<|aM<|aM<|so h▸eW M M M
  ·exact ko<|aV<|K (kS eM (.head _) (D M))<|cy h fun e1 q_e1 h=>K (bW fS cn (.tail _ (.head _)) (D M) hI q_e1)<|K (dd (r:=cB) (i:=(0:Int)) (foff:=0) cn M M bN M (.tail _ (.head _)) q_e1 (D M))<|jm M<|fK<|qo<|aM<|aM<|so h▸eW M M M
 ·skip
  refine bE (k:=16) M fun hN=>ci ?_;refine aN (mX (h3:=fun ls i bad1 stack1 l1 c1=>(e.Nodes.drop i=ls)/\gj do1 ls bad1 stack1=some R) (Of:=fun _ i bad1 stack1 l1 c1=>[bx rV 23 b (aK l1 c1 stack1.length),fi cB 3 l1 c1 stack1]) (Gf:=fun _ i bad1 stack1 l1 c1=>[(1,(kq bk Lw Lt (fun(x:aj×(List Int))=>do1 x.1 x.2))),(6,tV (ax b 0)),(7,cA 0),(8,tC 158 [tV (ax b 0)]),(9,cA bad1),(16,gP (ap) e.Nodes),(17,jq e.Nodes),(18,cA (i:Int))]) (fun i bad1 stack1 l1 c1 h=>?_) (fun e2 tl ih i bad1 stack1 l1 c1 h=>?_) e.Nodes 0 (0:Int) xw none 0 ⟨M,h⟩) (bv M)
  ·obtain⟨I,h⟩:=h
   refine eQ I M ?_;exact cT (af bad1 stack1 l1 c1 h) (bv M)
  ·obtain⟨I,h⟩:=h
   refine eP I M<|aJ<|av<|aV<|iq gp eY M (fz I)<|aC eY ip M fun b1=>aO eY ae M<|aD 11 M<|cb<|aJ<|cy h fun r q_r h=>cy h fun r1 q_r1 h=>?_;refine cy h fun r2 q_r2 h=>?_
   refine jC 12 [tc ((kq bk Lw Lt (fun(x:aj×(List Int))=>do1 x.1 x.2))),tc (H ap e2),tc (tC 158 [tV (ax b 0)]),tc (bw cB e2.Tag),tc (cA e2.Tag),tc (cA r),tc (lI r1.1),tc (tT [cA r2.1,cA r2.2]),tc (tT [cA r2.1,cA r2.2]),tc (cA r2.1),tc (cA r2.2),tc (cA r2.1)] [false,false,false,false,false,false,true,false,false,false,false,false] [fun _=>[bx rV 23 b (aK l1 c1 stack1.length),fi cB 3 l1 c1 stack1],fun sg=>[bx rV 23 b (aK ((sg 6).h 0).1 ((sg 6).h 0).2 r1.2.length),fi cB 3 ((sg 6).h 0).1 ((sg 6).h 0).2 r1.2]] M mixed M M M M M
    ⟨⟨[⟨1,fun _=>(kq bk N9 N7 (fun(x:aj×(List Int))=>do1 x.1 x.2)),none⟩],_,0,1,M,⟨(fun _=>M),aQ⟩,M,M,M,M,M,fun _ sg _ _=>ac M (m0 M)⟩,
    ⟨⟨[⟨11,fun _=>bw ap e2,none⟩],_,0,1,M,⟨(fun _=>M),aQ⟩,M,M,M,M,M,fun _ sg _ _=>ac M (oI eY M M)⟩,
    ⟨⟨[⟨8,fun _=>tC 158 [tV (ax b 0)],none⟩],_,0,0,M,⟨(fun _=>M),aQ⟩,M,M,M,M,M,fun _ sg _ _=>ac M (m0 M)⟩,
    ⟨⟨[⟨11,fun _=>bw ap e2,none⟩],_,0,0,M,⟨(fun _=>M),aQ⟩,M,M,M,M,M,fun _ sg _ _=>ac M (nG lv ep M M)⟩,
    ⟨⟨[⟨26,fun _=>bw cB e2.Tag,some 3⟩],_,0,0,M,⟨(fun _=>M),aQ⟩,M,M,M,M,M,fun _ sg _ _=>ac M (oI cn M M)⟩,
    ⟨⟨[⟨27,fun _=>H cB e2.Tag,some 4⟩],_,0,0,M,⟨(fun _=>M),aQ⟩,M,M,M,M,M,fun _ sg _ _=>ac M (ce Ng (C2 _ q_r) ⟨(D M),aQ⟩)⟩,
    ⟨⟨[⟨25,fun _=>tC 158 [tV (ax b 0)],some 2⟩,⟨28,fun _=>H cB r,some 5⟩],_,M,⟨(fun _=>M),(fun _=>M),aQ⟩,M,M,M,fun sg=>cx M (EffOK.fr1 (EffOK.fr1 (x8 (xs:=[.tmp 28]) (ts:=[H cB r]) (cts:=[tV (ax b 0)]) [bx rV 23 b (aK l1 c1 stack1.length),fi cB 3 l1 c1 stack1] _ M Q0 (Pd b l1 c1 _ _ q_r1) (D M) ⟨(D M),aQ⟩ (fun _=>M))))⟩,
    ⟨⟨[⟨23,fun _=>(kq bk N9 N7 (fun(x:aj×(List Int))=>do1 x.1 x.2)),some 0⟩,⟨24,fun _=>H ap e2,some 1⟩,⟨29,fun _=>H vz r1.1,some 6⟩],_,1,1,M,⟨(fun _=>M),(fun _=>M),(fun _=>M),aQ⟩,M,M,M,M,M,fun _ sg _ _=>ac M (mQ (args:=N9) (res:=N7) (f:=(fun(x:aj×(List Int))=>do1 x.1 x.2)) (x:=((e2,r1.1):aj×(List Int))) (D M) q_r2 ⟨(D M),(D M),aQ⟩)⟩,
    ⟨⟨[⟨30,fun _=>tT [H cB r2.1,H cB r2.2],some 7⟩],_,1,1,M,⟨(fun _=>M),aQ⟩,M,M,M,M,M,fun _ sg _ _=>ac M (m0 M)⟩,
    ⟨⟨[⟨22,fun _=>tT [H cB r2.1,H cB r2.2],some 8⟩],_,1,1,M,⟨(fun _=>M),aQ⟩,M,M,M,M,M,fun _ sg _ _=>ac M (Bb M M)⟩,
    ⟨⟨[⟨22,fun _=>tT [H cB r2.1,H cB r2.2],some 8⟩],_,1,1,M,⟨(fun _=>M),aQ⟩,M,M,M,M,M,fun _ sg _ _=>ac M (Bb M M)⟩,
    ⟨⟨[⟨31,fun _=>H cB r2.1,some 9⟩],_,1,1,M,⟨(fun _=>M),aQ⟩,M,M,M,M,M,fun _ sg _ _=>ac M (zy M)⟩,
    aQ⟩⟩⟩⟩⟩⟩⟩⟩⟩⟩⟩⟩ (fun sg=>?_)
   refine(show RG _ _ _ _ [_,_] _ from ?_);refine aT M<|bm<|bu M<|jS M<|dq h M (fun h=>?_) (fun h=>?_)
   ·refine aY M<|aT M<|il<|aL<|bX M<|aL<|aL<|dM ?_;exact cT (af r2.2 r1.2 ((sg 6).h 0).1 ((sg 6).h 0).2 h) (bv M)
   ·refine ko<|aG<|K (kS eM (.head _) (D M))<|bu M<|K (aR (r:=cB) (ys:=[r2.1]) (xs:=[.tmp 37]) fS cn M M M M M ⟨(D M),aQ⟩)<|aS<|cy h fun l2 q_l2 h=>dm cn M M M M fS M M (D M) (D M) q_l2 fun l3 c2=>aS<|cW eM M ae M (D M) (Bx (D M))<|bq<|dQ I hN M ?_;exact bj (aN (ih (i+1) bad1 l2 l3 c2 ⟨dC I,h⟩) (bv M))

def Kp tag{R}(h:pU tag=some R):cI bk 74 [cA tag] (gM R):=by
 exact eC Tryz.func74 M<|aV<|cR<|cb<|aY M<|dg M<|bu M<|bL M (fL M)<|bL M (fun T=>gz (dp M T) hI)<|bL M (yy M)<|jB M M M M (fun T=>m0 M)<|jB M M M M (fun T=>oS (dp M T) hI)<|bL M (fun T=>qN (dp M T) (fun V=>(dp M (Dh T V))))<|mI M<|bF M<|so h▸bZ M M

def Mx kinds n l{R}(h:iz kinds n l=some R):cI bk 152 [H ap n,lI l,bw pm kinds] (tT [cA R.1,cA R.2]):=by
 refine eC Tryz.func152 M<|aV<|dn M<|da<|da<|cb<|aV<|da<|cb<|bm<|bu M<|c9 fS M<|K (cj hI)<|cb<|av<|bE (k:=12) M fun hN=>ci ?_;refine aN (jh (h3:=fun ls i own=>(l.drop i=ls)/\ka kinds n ls own=some R) (Of:=fun _ i own=>[]) (Gf:=fun _ i own=>[(2,bw pm kinds),(3,bw ap n),(7,cA own),(12,lI l),(13,jq l),(14,cA (i:Int))]) (fun i own h=>?_) (fun e tl ih i own h=>?_) l 0 (0:Int) ⟨M,h⟩) (bv M)
 ·obtain⟨I,h⟩:=h
  refine eQ I M<|aB<|aY M<|aT M<|aV<|da<|cb ?_;refine aJ<|av<|aV<|ca lv ep cn M<|dg M<|aT M<|o8 h M (fun h=>?_) (fun h=>?_)
  ·exact aV<|oE xW kH M<|ca xX s9 cn M<|jm M<|fK<|eX<|so h▸eW M M M
  ·refine aV<|ca lv ep cn M<|dg M<|aT M<|o8 h M (fun h=>?_) (fun h=>?_)
   ·exact aV<|bA eM M<|ca oW gY cn M<|cy h fun e1 q_e1 h=>iq fS cn M q_e1<|jm M<|fK<|eX<|so h▸eW M M M
   ·refine aV<|ca lv ep cn M<|eg h QN (Kp _) (cm M) fun r h=>aT M<|o8 h M (fun h=>?_) (fun h=>?_)
    ·refine aG<|da<|da<|bq<|bh<|aB<|bm<|bu M<|dg M<|bu M<|bL M (fL M)<|bL M (zD M)<|bL M (yy M)<|jB M M M M (fun T=>m0 M)<|jB M M M M (fun T=>m0 M)<|jB M M M M (fun T=>mn (dp M T) (dp M T))<|bL M (fun T=>qN (dp M T) (fun V=>(dp M (Dh T V))))<|mI M<|dq h M (fun h=>?_) (fun h=>?_)
     ·exact aV<|da<|fK<|au<|so h▸eW M M M
     ·exact ko<|aY M<|jm M<|fK<|so h▸eW M M M
    ·refine aV<|ca lv ep cn M<|dg M<|bu M<|bL M (gR lv ep M M)<|bL M (gQ cn M M)<|bL M (nm M)<|mI M<|bu M<|bL M (gR lv ep M M)<|bL M (gQ cn M M)<|bL M (nm M)<|mI M<|aT M<|o8 h M (fun h=>?_) (fun h=>?_)
     ·refine aG<|da<|bq<|bh<|aB<|bm<|bu M<|dg M<|bu M<|bL M (fL M)<|bL M (zD M)<|bL M (yy M)<|jB M M M M (fun T=>m0 M)<|jB M M M M (fun T=>m0 M)<|jB M M M M (fun T=>mn (dp M T) (dp M T))<|bL M (fun T=>qN (dp M T) (fun V=>(dp M (Dh T V))))<|mI M<|dq h M (fun h=>?_) (fun h=>?_)
      ·exact aV<|da<|fK<|au<|so h▸eW M M M
      ·exact ko<|aY M<|jm M<|fK<|so h▸eW M M M
     ·refine cg<|bh<|aB<|bm<|bu M<|dg M<|bu M<|bL M (fL M)<|bL M (zD M)<|bL M (yy M)<|jB M M M M (fun T=>m0 M)<|jB M M M M (fun T=>m0 M)<|jB M M M M (fun T=>mn (dp M T) (dp M T))<|bL M (fun T=>qN (dp M T) (fun V=>(dp M (Dh T V))))<|mI M<|dq h M (fun h=>?_) (fun h=>?_)
      ·exact aV<|da<|fK<|au<|so h▸eW M M M
      ·exact ko<|aY M<|jm M<|fK<|so h▸eW M M M
 ·obtain⟨I,h⟩:=h
  refine eP I M<|aJ<|av<|aV<|iq fS cn M (fz I)<|aT M<|av<|aY M<|dg M ?_;refine bu M<|bL M (fL M)<|bL M (fL M)<|bL M (fun T=>jP (dp M T) (dp M T))<|mI M<|aT M<|o8 h M (fun h=>?_) (fun h=>?_)
  ·refine cg<|bh<|dQ I hN M ?_;exact bj (aN (ih (i+1) own ⟨dC I,h⟩) (bv M))
  ·refine aY M<|dg M<|aT M<|o8 h M (fun h=>?_) (fun h=>?_)
   ·refine aG<|bu M<|jm M<|bq<|bh<|dQ I hN M ?_;exact bj (aN (ih (i+1) e ⟨dC I,h⟩) (bv M))
   ·refine aG<|da<|bq<|bh<|dQ I hN M ?_;exact bj (aN (ih (i+1) pr ⟨dC I,h⟩) (bv M))

def C6 e kinds{R}(h:qm e kinds=some R):cI bk 132 [H ah e,lI kinds] (tT [cA R.1,cA R.2]):=by
 refine eC Tryz.func132 M<|aV<|dn M<|dn M<|da<|da<|cb<|bm<|bA aX M<|eg h KX (AI _) (cm M) fun r h=>aT M<|aY M<|jS M<|cb ?_;refine o8 h M (fun h=>?_) (fun h=>?_)
 ·exact aY M<|da<|bF M<|au<|so h▸eW M M M
 ·refine ko<|bm<|bA eM M<|c9 fS M<|K (cj hI)<|cb<|av<|bE (k:=16) M fun hN=>ci ?_;refine aN (kX (h3:=fun ls i=>(kinds.drop i=ls)/\oh e kinds ls=some R) (Of:=fun _ i=>[]) (Gf:=fun _ i=>[(2,bw ah e),(3,bw pm kinds),(16,lI kinds),(17,jq kinds),(18,cA (i:Int))]) (fun i h=>?_) (fun e1 tl ih i h=>?_) kinds 0 ⟨M,h⟩) (bv M)
  ·obtain⟨I,h⟩:=h
   refine eQ I M<|aB<|bm<|bA aX M<|q5 h Po (C3 _) (cm M) fun r1 h l c=>K (eU fS (.head _) (D M))<|K (cj hI)<|cb<|av ?_;refine fR (.head _) fun hN1=>ci ?_;refine aN (kX (h3:=fun ls1 i1=>(r1.drop i1=ls1)/\kO e kinds ls1=some R) (Of:=fun _ i1=>[fi cB 3 l c r1]) (Gf:=fun _ i1=>[(2,bw ah e),(3,bw pm kinds),(30,sO l c r1),(31,jq r1),(32,cA (i1:Int))]) (fun i1 h=>?_) (fun e2 tl1 ih1 i1 h=>?_) r1 0 ⟨M,h⟩) (bv M)
   ·obtain⟨hx1,h⟩:=h
    refine eQ hx1 M<|aB<|aV<|bA aX M<|K ((show bR _ _ _ _ ((kq bk Lw Lt (fun(x:aj×(List Int))=>(iz kinds) x.1 x.2)))from pD (cts:=[bw pm kinds]) (caps:=[.tmp 3]) Q4 ⟨(D M),aQ⟩ (fun x y h=>Mx _ _ _ h)))<|eg h Q5 (My _ _) (cm M) fun r2 h=>bS M M<|bS M M<|jm M<|jm M<|bq ?_;exact aB<|lz<|aM<|so h▸eW M M M
   ·obtain⟨hx1,h⟩:=h
    refine eP hx1 M<|aJ<|av<|aV<|K (bW fS cn (.head _) (D M) (D M) (fz hx1))<|K (dd (r:=cB) (i:=(i1:Int)) (foff:=0) cn M M bN M (.head _) (fz hx1) (D M))<|aT M<|aY M<|bA eM M<|c9 fS M ?_;refine K (gz (D M) (D M))<|dq h M (fun h=>?_) (fun h=>?_)
    ·exact aV<|da<|fK<|eX<|au<|eX<|aM<|so h▸eW M M M
    ·refine cg<|dQ hx1 hN1 M ?_;exact bj (aN (ih1 (i1+1) ⟨dC hx1,h⟩) (bv M))
  ·obtain⟨I,h⟩:=h
   refine eP I M<|aJ<|av<|aV<|iq fS cn M (fz I)<|aT M<|aY M<|K (mE (D M) hI)<|bu M ?_;refine bL M (fL M)<|bL M (fun T=>s4 (dp M T) hI)<|mI M<|dq h M (fun h=>?_) (fun h=>?_)
   ·exact aV<|da<|fK<|eX<|au<|eX<|so h▸eW M M M
   ·refine cg<|dQ I hN M ?_;exact bj (aN (ih (i+1) ⟨dC I,h⟩) (bv M))

end Go.Proofs.YtbmmihfagmchaaaGreat

