/- cW of this claim: P13. -/
import Derived.Test.YtbmmihfagmchaaaGreatRcT
import Derived.Test.YtbmmihfagmchaaaGreatRcP12
set_option linter.all false
namespace Go.Proofs.YtbmmihfagmchaaaGreat
open Go
set_option maxRecDepth 100000

def Ku s1 s2{R}(h:iD s1 s2=some R):cK bh 17 [lO s1,lO s2] (gC R):=by
 refine ep Tryz.func17 M<|aV<|cn<|cb<|bl<|bu M<|cA gr M<|bu M<|cA gr M<|K (jt (D M) (D M))<|dv h M (fun h=>?_) (fun h=>?_)
 ·exact aV<|cn<|da<|an<|so h▸bB M M
 ·refine kF<|bl<|bu M<|cA gr M<|K (ci hI)<|cb<|av<|bA (k:=11) M fun hN=>cd ?_;refine aP (jq (h3:=fun ls i=>(s1.drop i=ls)/\gv s2 ls i=some R) (Of:=fun _ i=>[]) (Gf:=fun _ i=>[(0,lO s1),(1,lO s2),(12,jw s1),(13,cE (i:Int))]) (fun i h=>?_) (fun e tl ih i h=>?_) s1 0 ⟨M,h⟩) (bv M)
  ·obtain⟨I,h⟩:=h
   exact fa I M<|aB<|aV<|cn<|da<|so h▸bB M M
  ·obtain⟨I,h⟩:=h
   refine eZ I M<|aI<|av<|aZ M<|aY M<|aI<|cC h fun e1 q_e1 h=>?_
   refine hD (ts:=[_,_,_,_,_,_,_,_,_]) mixed M M
    ⟨iJ M M,
    ⟨iJ M M,
    ⟨gg 16 0 17 1 M M M (H1 gr ck M M M (fy I)),
    ⟨jf 2 ck M M,
    ⟨iJ M M,
    ⟨iJ M M,
    ⟨gg 20 4 21 5 M M M (H1 gr ck M M M q_e1),
    ⟨jf 6 ck M M,
    ⟨gg 19 3 23 7 M M M (jt (D M) (D M)),
    aR⟩⟩⟩⟩⟩⟩⟩⟩⟩ ?_
   refine aB<|oH h M (fun h=>?_) (fun h=>?_)
   ·exact aV<|cn<|da<|eN<|an<|eN<|so h▸bB M M
   ·refine cc<|dU I hN M ?_;exact bg (aP (ih (i+1) ⟨dH I,h⟩) (bv M))

def ON s1 s2{R}(h:gH s1 s2=some R):cK bh 89 [gk (ap) s1,gk (ap) s2] (gC R):=by
 refine ep Tryz.func89 M<|aV<|cn<|cb<|bl<|bu M<|cA na M<|bu M<|cA na M<|K (jt (D M) (D M))<|dv h M (fun h=>?_) (fun h=>?_)
 ·exact aV<|cn<|da<|an<|so h▸bB M M
 ·refine kF<|bl<|bu M<|cA na M<|K (ci hI)<|cb<|av<|bA (k:=11) M fun hN=>cd ?_;refine aP (jq (h3:=fun ls i=>(s1.drop i=ls)/\du s2 ls i=some R) (Of:=fun _ i=>[]) (Gf:=fun _ i=>[(0,gk (ap) s1),(1,gk (ap) s2),(12,jw s1),(13,cE (i:Int))]) (fun i h=>?_) (fun e tl ih i h=>?_) s1 0 ⟨M,h⟩) (bv M)
  ·obtain⟨I,h⟩:=h
   exact fa I M<|aB<|aV<|cn<|da<|so h▸bB M M
  ·obtain⟨I,h⟩:=h
   refine eZ I M<|aI<|av<|aZ M<|aY M<|aI<|cC h fun e1 q_e1 h=>?_
   refine hD (ts:=[_,_,_,_,_,_,_,_,_]) mixed M M
    ⟨iJ M M,
    ⟨iJ M M,
    ⟨gg 16 0 17 1 M M M (H1 na fc M M M (fy I)),
    ⟨jf 2 fc M M,
    ⟨iJ M M,
    ⟨iJ M M,
    ⟨gg 20 4 21 5 M M M (H1 na fc M M M q_e1),
    ⟨jf 6 fc M M,
    ⟨gg 19 3 23 7 M M M (wW QL (D M) (D M)),
    aR⟩⟩⟩⟩⟩⟩⟩⟩⟩ ?_
   refine aB<|oH h M (fun h=>?_) (fun h=>?_)
   ·exact aV<|cn<|da<|eN<|an<|eN<|so h▸bB M M
   ·refine cc<|dU I hN M ?_;exact bg (aP (ih (i+1) ⟨dH I,h⟩) (bv M))

def Gu a1 b{R}(h:nH a1 b=some R):cK bh 67 [H af a1,H af b] (gC R):=by
 exact ep Tryz.func67 M<|aV<|dh M<|dh M<|cn<|cb<|aV<|bP dq cG iU M<|bP dq cG iU M<|eu h Sh (ON _ _) (co M) fun r h=>bG M<|so h▸bB M M

def OX p y{R}(h:kP p y=some R):cK bh 66 [H dl p,H dl y] (gC R):=by
 refine ep Tryz.func66 M<|aV<|dh M<|dh M<|cn<|cb<|aV<|bP C9 xg ck M<|bP C9 xg ck M<|K (gZ (D M) (D M))<|bu M<|cC h fun t q_t h=>aE M (ez uI q9 M M)<|aE M (ev aU M M)<|aE M (ez uI q9 M M)<|aE M (ev aU M M) ?_
 obtain⟨r,h1t,h0t⟩:=og q_t
 have q_rg:=fun V=>(h1t V).1
 exact aE M (fun T=>cm Pp (Gu _ _ (q_rg T)) ⟨(df M T),(df M T),aR⟩)<|K (dS (D M) (fun V=>(df M V)) (fun V=>(h1t V).2) h0t)<|bG M<|so h▸bB M M

def OW s1 s2{R}(h:gh s1 s2=some R):cK bh 68 [gk (eQ) s1,gk (eQ) s2] (gC R):=by
 refine ep Tryz.func68 M<|aV<|cn<|cb<|bl<|bu M<|cA t7 M<|bu M<|cA t7 M<|K (jt (D M) (D M))<|dv h M (fun h=>?_) (fun h=>?_)
 ·exact aV<|cn<|da<|an<|so h▸bB M M
 ·refine kF<|bl<|bu M<|cA t7 M<|K (ci hI)<|cb<|av<|bA (k:=11) M fun hN=>cd ?_;refine aP (jq (h3:=fun ls i=>(s1.drop i=ls)/\d6 s2 ls i=some R) (Of:=fun _ i=>[]) (Gf:=fun _ i=>[(0,gk (eQ) s1),(1,gk (eQ) s2),(12,jw s1),(13,cE (i:Int))]) (fun i h=>?_) (fun e tl ih i h=>?_) s1 0 ⟨M,h⟩) (bv M)
  ·obtain⟨I,h⟩:=h
   exact fa I M<|aB<|aV<|cn<|da<|so h▸bB M M
  ·obtain⟨I,h⟩:=h
   refine eZ I M<|aI<|av<|aZ M<|aY M<|aI<|cC h fun e1 q_e1 h=>?_
   refine hD (ts:=[_,_,_,_,_,_,_,_,_]) mixed M M
    ⟨iJ M M,
    ⟨iJ M M,
    ⟨gg 16 0 17 1 M M M (H1 t7 zQ M M M (fy I)),
    ⟨jf 2 zQ M M,
    ⟨iJ M M,
    ⟨iJ M M,
    ⟨gg 20 4 21 5 M M M (H1 t7 zQ M M M q_e1),
    ⟨jf 6 zQ M M,
    ⟨gg 19 3 23 7 M M M (wW R2 (D M) (D M)),
    aR⟩⟩⟩⟩⟩⟩⟩⟩⟩ ?_
   refine aB<|oH h M (fun h=>?_) (fun h=>?_)
   ·exact aV<|cn<|da<|eN<|an<|eN<|so h▸bB M M
   ·refine cc<|dU I hN M ?_;exact bg (aP (ih (i+1) ⟨dH I,h⟩) (bv M))

def OV s1 s2 eq{R}(h:cO s1 s2 eq=some R):cK bh 69 [gk (dl) s1,gk (dl) s2,(kK bh Lr rh (fun(x:gQ×gQ)=>eq x.1 x.2))] (gC R):=by
 refine ep Tryz.func69 M<|aV<|cn<|cb<|bl<|bu M<|cA qc M<|bu M<|cA qc M<|K (jt (D M) (D M))<|dv h M (fun h=>?_) (fun h=>?_)
 ·exact aV<|cn<|da<|an<|so h▸bB M M
 ·refine kF<|bl<|bu M<|cA qc M<|K (ci hI)<|cb<|av<|bA (k:=15) M fun hN=>cd ?_;refine aP (jq (h3:=fun ls i=>(s1.drop i=ls)/\ca s2 eq ls i=some R) (Of:=fun _ i=>[]) (Gf:=fun _ i=>[(1,gk (dl) s2),(2,(kK bh Lr rh (fun(x:gQ×gQ)=>eq x.1 x.2))),(15,gk (dl) s1),(16,jw s1),(17,cE (i:Int))]) (fun i h=>?_) (fun e tl ih i h=>?_) s1 0 ⟨M,h⟩) (bv M)
  ·obtain⟨I,h⟩:=h
   exact fa I M<|aB<|aV<|cn<|da<|so h▸bB M M
  ·obtain⟨I,h⟩:=h
   refine eZ I M<|aI<|av<|aZ M<|gF qc qf M (fy I)<|aA qf CF M fun b=>jy M<|aO qf ac M<|aD 8 M<|cb<|aI ?_;refine aG<|bu M<|bu M<|cC h fun e1 q_e1 h=>gF qc qf M q_e1<|aA qf CF M fun b1=>aO qf ac M<|aD 9 M<|cb<|aZ M<|bw qf M<|bw qf M<|cC h fun r q_r h=>K (mZ (args:=Lr) (res:=Fz) (f:=(fun(x:gQ×gQ)=>eq x.1 x.2)) (x:=((e,e1):gQ×gQ)) (D M) q_r ⟨(D M),(D M),aR⟩)<|K (iY (D M))<|dv h M (fun h=>?_) (fun h=>?_)
   ·exact aV<|cn<|da<|eN<|an<|eN<|so h▸bB M M
   ·refine cc<|dU I hN M ?_;exact bg (aP (ih (i+1) ⟨dH I,h⟩) (bv M))

def OU s1 s2 eq{R}(h:cv s1 s2 eq=some R):cK bh 70 [gk (af) s1,gk (af) s2,(kK bh NZ rh (fun(x:ai×ai)=>eq x.1 x.2))] (gC R):=by
 refine ep Tryz.func70 M<|aV<|cn<|cb<|bl<|bu M<|cA kX M<|bu M<|cA kX M<|K (jt (D M) (D M))<|dv h M (fun h=>?_) (fun h=>?_)
 ·exact aV<|cn<|da<|an<|so h▸bB M M
 ·refine kF<|bl<|bu M<|cA kX M<|K (ci hI)<|cb<|av<|bA (k:=15) M fun hN=>cd ?_;refine aP (jq (h3:=fun ls i=>(s1.drop i=ls)/\bK s2 eq ls i=some R) (Of:=fun _ i=>[]) (Gf:=fun _ i=>[(1,gk (af) s2),(2,(kK bh NZ rh (fun(x:ai×ai)=>eq x.1 x.2))),(15,gk (af) s1),(16,jw s1),(17,cE (i:Int))]) (fun i h=>?_) (fun e tl ih i h=>?_) s1 0 ⟨M,h⟩) (bv M)
  ·obtain⟨I,h⟩:=h
   exact fa I M<|aB<|aV<|cn<|da<|so h▸bB M M
  ·obtain⟨I,h⟩:=h
   refine eZ I M<|aI<|av<|aZ M<|gF kX aU M (fy I)<|aA aU cB M fun b=>jy M<|aO aU ac M<|aD 8 M<|cb<|aI ?_;refine aG<|bu M<|bu M<|cC h fun e1 q_e1 h=>gF kX aU M q_e1<|aA aU cB M fun b1=>aO aU ac M<|aD 9 M<|cb<|aZ M<|bw aU M<|bw aU M<|cC h fun r q_r h=>K (mZ (args:=NZ) (res:=Fz) (f:=(fun(x:ai×ai)=>eq x.1 x.2)) (x:=((e,e1):ai×ai)) (D M) q_r ⟨(D M),(D M),aR⟩)<|K (iY (D M))<|dv h M (fun h=>?_) (fun h=>?_)
   ·exact aV<|cn<|da<|eN<|an<|eN<|so h▸bB M M
   ·refine cc<|dU I hN M ?_;exact bg (aP (ih (i+1) ⟨dH I,h⟩) (bv M))

def O6 a1 b{R}(h:qZ a1 b=some R):cK bh 42 [H ak a1,H ak b] (gC R):=by
 refine ep Tryz.func42 M<|aV<|dh M<|dh M<|cn<|cb<|aV<|K (bF (show aF _ _ _ ((kK bh Lr rh (fun(x:gQ×gQ)=>kP x.1 x.2)))from(Mb Sx fun x y h=>OX _ _ h)))<|cb<|aV<|bP pY kR eK M<|bP pY kR eK M<|eu h QZ (Ku _ _) (co M) fun r h=>bu M<|cC h fun t q_t h=>aE M (ez o0 jR M M) ?_;refine aE M (ev eK M M)<|aE M (ez o0 jR M M)<|aE M (ev eK M M) ?_
 obtain⟨r1,h1t,h0t⟩:=og q_t
 have q_r1g:=fun V=>(h1t V).1
 refine aE M (fun T=>cm QZ (Ku _ _ (q_r1g T)) ⟨(df M T),(df M T),aR⟩)<|K (dS (D M) (fun V=>(df M V)) (fun V=>(h1t V).2) h0t)<|bu M<|cC h fun t1 q_t1 h=>aE M (ez po jK M M)<|aE M (ev y4 M M)<|aE M (ez po jK M M)<|aE M (ev y4 M M) ?_
 obtain⟨r2,h1t1,h0t1⟩:=og q_t1
 have q_r2g:=fun V=>(h1t1 V).1
 refine aE M (fun T=>cm Sw (OW _ _ (q_r2g T)) ⟨(df M T),(df M T),aR⟩)<|K (dS (D M) (fun V=>(df M V)) (fun V=>(h1t1 V).2) h0t1)<|aY M<|aV<|bP ki fT aU M<|bP ki fT aU M<|eu h Pp (Gu _ _) (co M) fun r3 h=>bu M<|cC h fun t2 q_t2 h=>aE M (ez mO md M M)<|aE M (ev vk M M)<|aE M (ez mO md M M)<|aE M (ev vk M M)<|aE M (fV M) ?_
 obtain⟨r4,h1t2,h0t2⟩:=og q_t2
 have q_r4g:=fun V=>(h1t2 V).1
 refine aE M (fun T=>cm Sv (OV _ _ _ (q_r4g T)) ⟨(df M T),(df M T),(df M T),aR⟩)<|K (dS (D M) (fun V=>(df M V)) (fun V=>(h1t2 V).2) h0t2)<|bu M<|cC h fun t3 q_t3 h=>aE M (ez kh gM M M)<|aE M (ev hZ M M)<|aE M (ez kh gM M M)<|aE M (ev hZ M M) ?_
 obtain⟨r5,h1t3,h0t3⟩:=og q_t3
 have q_r5g:=fun V=>(h1t3 V).1
 refine aE M (fun T=>cm Sr (OU _ _ _ (q_r5g T)) ⟨(df M T),(df M T),(Mb Pp fun x y h=>Gu _ _ h),aR⟩)<|K (dS (D M) (fun V=>(df M V)) (fun V=>(h1t3 V).2) h0t3)<|aY M<|aV<|bP mP fU ck M<|bP mP fU ck M<|K (gZ (D M) (D M))<|bu M<|aE M (ez jz eG M M)<|aE M (ev ck M M)<|aE M (ez jz eG M M)<|aE M (ev ck M M)<|aE M (fun T=>gZ (df M T) (df M T))<|fZ M<|bu M<|aE M (ez ol jk M M)<|aE M (ev ck M M)<|aE M (ez ol jk M M)<|aE M (ev ck M M) ?_;refine aE M (fun T=>gZ (df M T) (df M T))<|fZ M<|bu M<|aE M (ez yd q8 M M)<|aE M (ev ck M M)<|aE M (ez yd q8 M M)<|aE M (ev ck M M)<|aE M (fun T=>gZ (df M T) (df M T))<|fZ M<|bu M<|aE M (ez yc q7 M M)<|aE M (ev G8 M M)<|aE M (ez yc q7 M M)<|aE M (ev G8 M M)<|aE M (fun T=>LQ Jh (df M T) (df M T))<|fZ M<|bu M<|aE M (ez u8 pN M M)<|aE M (ev ck M M)<|aE M (ez u8 pN M M)<|aE M (ev ck M M)<|aE M (fun T=>gZ (df M T) (df M T))<|fZ M<|bu M ?_;exact aE M (fV M)<|fZ M<|bu M<|aE M (fV M)<|fZ M<|bG M<|so h▸bB M M

def Kv a1 b{R}(h:q5 a1 b=some R):cK bh 15 [H ay a1,H ay b] (gC R):=by
 exact ep Tryz.func15 M<|aV<|dh M<|dh M<|cn<|cb<|aV<|bP gq eg nk M<|bP gq eg nk M<|eu h SK (O7 _ _ _) ⟨(D M),(D M),(Mb SJ fun x y h=>O6 _ _ h),aR⟩ fun r h=>bG M<|so h▸bB M M

def QH p{R}(h:nr p=some R):cK bh 4 [H ay p] (gC R):=by
 refine ep Tryz.func4 M<|aV<|dh M<|cn<|cb<|bl<|eu h cb6 QE trivial fun r h=>K (iY (D M))<|dv h M (fun h=>?_) (fun h=>?_)
 ·exact aV<|cn<|da<|an<|so h▸bB M M
 ·refine kF<|aV<|bw cQ M<|eu h ST (Ph _) (co M) fun r1 h=>aA cQ d5 M fun b=>aO cQ ac M<|aD 3 M<|cb<|aV<|bw cQ M<|eu h Pv (Gy _) (co M) fun r2 h=>bu M<|bZ M M<|bZ M M<|aA cQ d5 M fun b1=>aO cQ ac M<|aD 4 M<|jy M ?_;refine cb<|bl<|bu M<|lH M<|dv h M (fun h=>?_) (fun h=>?_)
  ·exact aV<|bP gq eg nk M<|cA jW M<|dz M<|bG M<|an<|so h▸bB M M
  ·refine kF<|aV<|bw cQ M<|eu h Pv (Gy _) (co M) fun r3 h=>bu M<|bZ M M<|bZ M M<|aA cQ d5 M fun b2=>aO cQ ac M<|aD 6 M<|aY M<|aV<|bw cQ M<|eu h Rd (Kx _) (co M) fun r4 h=>bu M<|bZ M M<|bZ M M ?_;refine bZ M M<|aA cQ d5 M fun b3=>aO cQ ac M<|aD 7 M<|jy M<|aY M<|aZ M<|dz M<|bu M<|cC h fun t q_t h=>aE M (fun T=>pe cQ M M)<|aE M (fun T=>pe cQ M M) ?_
   obtain⟨r5,h1t,h0t⟩:=og q_t
   have q_r5g:=fun V=>(h1t V).1
   refine aE M (fun T=>cm Q7 (Kv _ _ (q_r5g T)) ⟨(df M T),(df M T),aR⟩)<|K (dS (D M) (fun V=>(df M V)) (fun V=>(h1t V).2) h0t)<|bu M<|aE M (fV M)<|aE M (nw M)<|fZ M<|bu M<|cC h fun t1 q_t1 h=>aE M (fV M)<|aE M (zG M)<|aE M (yA M) ?_
   obtain⟨t2,h1t1,h0t1⟩:=og q_t1
   have q_t2g:=fun V=>(h1t1 V).1
   refine oA M M M M (fun T=>pe cQ M M)<|oA M M M M (fun T=>pe cQ M M) ?_
   obtain⟨r6,h1t2,h0t2⟩:=og3 q_t2g
   have q_r6g:=fun V=>(h1t2 V).1
   exact oA M M M M (fun T=>cm Q7 (Kv _ _ (q_r6g T)) ⟨(df M T),(df M T),aR⟩)<|aE M (fun T=>qV (df M T) (fun V=>(df M (Dq T (CY V)))) (fun V=>(h1t2 (Dq T V)).2) (fun V=>h0t2 T V))<|K (dS (D M) (fun V=>(df M V)) (fun V=>(h1t1 V).2) h0t1)<|bG M<|so h▸bB M M

end Go.Proofs.YtbmmihfagmchaaaGreat

