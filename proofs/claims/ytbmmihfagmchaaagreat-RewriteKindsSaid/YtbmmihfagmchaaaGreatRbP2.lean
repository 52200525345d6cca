/- cP of this claim: P2. -/
import Derived.Test.YtbmmihfagmchaaaGreatRbT
import Derived.Test.YtbmmihfagmchaaaGreatRbP1
set_option linter.all false
namespace Go.Proofs.YtbmmihfagmchaaaGreat
open Go
set_option maxRecDepth 100000

def Ht e kinds{R}(h:pF e kinds=some R):cI bk 129 [H ah e,lI kinds] (gM R):=by
 refine eC Tryz.func129 M<|aV<|dn M<|cR<|cb<|aV<|bA aX M<|bu M<|eg h KY (C6 _ _) (cm M) fun r h=>bu M<|bS M M<|bS M M<|jm M<|aT M<|aY M<|dg M ?_;exact bu M<|aW M (fL M)<|aW M (nm M)<|aW M (yy M)<|sH M M M M (fun T=>m0 M)<|sH M M M M (fun T=>jP (dp M T) hI)<|aW M (fun T=>uO (dp M T) (fun V=>(dp M (Dh T (xO V)))))<|hM M<|bF M<|so h▸bZ M M

def Qz(b:Nat)(ix:OI) c n{R}(h:fV c n=some R):fg bk 92 [tV (ax b 0),H ak n] (dB b c ix) (fun _:OI=>tT [lI R.1,gM R.2]) (fun _=>(dB b c ix)):=by
 refine fg.of Tryz.func92 M M M fun w0 S0=>?_;refine(show CG _ _ _ [bx (rH aZ [(1,aK (ix.h 0).1 (ix.h 0).2 c.kinds.length),(2,aK (ix.h 1).1 (ix.h 1).2 c.first.length)]) 102 b c,gT pm 23 (ix.h 0).1 (ix.h 0).2 c.kinds,gT cB 3 (ix.h 1).1 (ix.h 1).2 c.first] _ from ?_);refine aV<|dn M<|oF cB<|cR<|cb<|aJ<|cy h fun e q_e h=>cy h fun e1 q_e1 h=>cy h fun r q_r h=>?_
 refine im (ts:=[_,_,_,_,_,_,_,_,_,_,_,_,_,_,_,_,_,_,_]) mixed M M
  ⟨jt M M,
  ⟨eH 7 0 M M (gN (D M)),
  ⟨eH 8 1 M M (rJ 1 lG M M M),
  ⟨eH 9 2 M M (gh qw M (.head _) (.tail _ (.head _)) (D M)),
  ⟨pN 3 M M (nG j6 fe M M),
  ⟨jF 4 cn M M,
  ⟨gr 10 3 12 5 M M M (bn sR eM M (mD (D M)) (D M) q_e),
  ⟨jF 6 eM M M,
  ⟨jt M M,
  ⟨eH 15 8 M M (gN (D M)),
  ⟨eH 16 9 M M (rJ 1 lG M M M),
  ⟨eH 17 10 M M (gh qw M (.head _) (.tail _ (.head _)) (D M)),
  ⟨pN 3 M M (nG pT kG M M),
  ⟨jF 12 cn M M,
  ⟨gr 18 11 20 13 M M M (bn sR eM M (mD (D M)) (D M) q_e1),
  ⟨jF 14 eM M M,
  ⟨gr 14 7 22 15 M M M (aR (r:=vz) (ys:=[e,e1]) (xs:=[.tmp 14,.tmp 22]) sR eM M M M M M ⟨(D M),(D M),aQ⟩),
  ⟨eH 23 16 M M (ce Ri (MJ _ q_r) ⟨(D M),aQ⟩),
  ⟨eH 24 17 M M (zy M),
  aQ⟩⟩⟩⟩⟩⟩⟩⟩⟩⟩⟩⟩⟩⟩⟩⟩⟩⟩⟩ ?_
 exact aB<|aY M<|ca kN fW aX M<|bu M<|eg h NV (Ht _ _) (cm M) fun r1 h=>jm M<|bF M<|aH<|aH<|aH<|so h▸ji (ts:=[lI r,gM r1]) (rvs:=[.tmp 4,.tmp 5]) M M ⟨aP M,aP M,aQ⟩ qg M M

def Qy(b:Nat)(ix:OI) c n{R}(h:fd c n=some R):fg bk 93 [tV (ax b 0),H ak n] (dB b c ix) (fun _:OI=>tT [lI R.1,gM R.2]) (fun _=>(dB b c ix)):=by
 refine fg.of Tryz.func93 M M M fun w0 S0=>?_;refine(show CG _ _ _ [bx (rH aZ [(1,aK (ix.h 0).1 (ix.h 0).2 c.kinds.length),(2,aK (ix.h 1).1 (ix.h 1).2 c.first.length)]) 102 b c,gT pm 23 (ix.h 0).1 (ix.h 0).2 c.kinds,gT cB 3 (ix.h 1).1 (ix.h 1).2 c.first] _ from ?_);refine aV<|dn M<|oF cB<|cR<|cb<|aJ<|cy h fun e q_e h=>cy h fun r q_r h=>?_
 refine im (ts:=[_,_,_,_,_,_,_,_,_,_,_,_,_,_,_,_,_,_,_,_,_]) mixed M M
  ⟨jt M M,
  ⟨eH 6 0 M M (gN (D M)),
  ⟨eH 7 1 M M (rJ 1 lG M M M),
  ⟨eH 8 2 M M (gh qw M (.head _) (.tail _ (.head _)) (D M)),
  ⟨pN 3 M M (nG j6 fe M M),
  ⟨jF 4 cn M M,
  ⟨gr 9 3 11 5 M M M (bn sR eM M (mD (D M)) (D M) q_e),
  ⟨jF 6 eM M M,
  ⟨pN 3 M M (nG kN fW M M),
  ⟨jF 8 aX M M,
  ⟨jt M M,
  ⟨eH 16 10 M M (gN (D M)),
  ⟨eH 17 11 M M (rJ 1 lG M M M),
  ⟨eH 18 12 M M (gh qw M (.head _) (.tail _ (.head _)) (D M)),
  ⟨pN 3 M M (nG j6 fe M M),
  ⟨jF 14 cn M M,
  ⟨gr 19 13 21 15 M M M (bn sR eM M (mD (D M)) (D M) q_e),
  ⟨jF 16 eM M M,
  ⟨gr 15 9 23 17 M M M (ce NV (Ht _ _ q_r) ⟨(D M),(D M),aQ⟩),
  ⟨eH 13 7 M M (zy M),
  ⟨eH 24 18 M M (zy M),
  aQ⟩⟩⟩⟩⟩⟩⟩⟩⟩⟩⟩⟩⟩⟩⟩⟩⟩⟩⟩⟩⟩ ?_
 exact aB<|lz<|aH<|aH<|aH<|so h▸ji (ts:=[lI e,gM r]) (rvs:=[.tmp 4,.tmp 5]) M M ⟨aP M,aP M,aQ⟩ qg M M

def Mz kinds c{R}(h:nY kinds c=some R):cI bk 150 [cA c,bw pm kinds] (gM R):=by
 exact eC Tryz.func150 M<|aV<|cR<|cb<|aY M<|K (mE (D M) hI)<|bu M<|bL M (fL M)<|bL M (fun T=>oI eM M M)<|bL M (pu fS M)<|bL M (fun T=>gz (dp M T) (dp M T))<|mI M<|bF M<|so h▸bZ M M

def MI l kinds{R}(h:qb l kinds=some R):cI bk 130 [lI l,lI kinds] (gM R):=by
 exact eC Tryz.func130 M<|aV<|dn M<|cR<|cb<|aY M<|K ((show bR _ _ _ _ ((kq bk Jc rG (fun(x:Int)=>(nY kinds) x)))from pD (cts:=[bw pm kinds]) (caps:=[.tmp 3]) Q6 ⟨(D M),aQ⟩ (fun x y h=>Mz _ _ h)))<|eg h NW (Hu _ _) (cm M) fun r h=>K (jn (D M))<|bF M<|so h▸bZ M M

def MH a1 kinds{R}(h:uQ a1 kinds=some R):cI bk 131 [H dt a1,lI kinds] (tT [cA R.1,gM R.2]):=by
 refine eC Tryz.func131 M<|aV<|dn M<|da<|cR<|cb<|bm<|ca Gl AA cn M<|dg M<|dq h M (fun h=>?_) (fun h=>?_)
 ·refine aJ ?_
  refine im (ts:=[_,_,_,_,_,_,_]) mixed M M
   ⟨pN 2 M M (nG we sF M M),
   ⟨eH 11 0 M M (nG dk cE M M),
   ⟨jF 1 iY M M,
   ⟨eH 13 2 M M (PJ gp M),
   ⟨eH 14 3 M M (PA M),
   ⟨Lk M (RP),
   ⟨eH 15 4 M M (zy M),
   aQ⟩⟩⟩⟩⟩⟩⟩ ?_
  exact aB<|lz<|au<|so h▸eW M M M
 ·refine ko<|aV<|ca we sF aX M<|bu M<|eg h KY (C6 _ _) (cm M) fun r h=>bu M<|bS M M<|bS M M<|jm M<|aT M<|bm<|ca Gl AA cn M<|cb<|av ?_;refine aV<|dg M<|aT M<|o8 h M (fun h=>?_) (fun h=>?_)
  ·exact aY M<|dg M<|da<|bF M<|eX<|so h▸eW M M M
  ·refine aV<|dg M<|aT M<|o8 h M (fun h=>?_) (fun h=>?_)
   ·exact aY M<|dg M<|bu M<|aW M (fL M)<|aW M (nm M)<|aW M (yy M)<|sH M M M M (fun T=>m0 M)<|sH M M M M (fun T=>jP (dp M T) hI)<|aW M (fun T=>uO (dp M T) (fun V=>(dp M (Dh T (xO V)))))<|hM M<|da<|bF M<|eX<|so h▸eW M M M
   ·refine iZ (h3:=fun x=>qc r x=some R) (Of:=fun x=>[]) (Gf:=fun x=>[(6,cA r.1),(7,cA r.2),(41,gM x)]) (fun x h=>?_) (fun af=>?_)
    ·skip
     refine o8 h M (fun h=>?_) (fun h=>?_)
     ·exact aY M<|bu M<|dg M<|jm M<|bF M<|eX<|so h▸eW M M M
     ·exact cg<|bh<|aB<|aV<|da<|cR<|dG<|so h▸eW M M M
    ·skip
     refine aV<|dg M<|aT M<|o8 h M (fun h=>?_) (fun h=>?_)
     ·refine cg ?_;exact cT (af (a1.Tag==(4:Int)) h) (bv M)
     ·refine aG<|dg M<|jm M<|bq ?_;exact cT (af (a1.Tag==(5:Int)) h) (bv M)

def Qx(b:Nat)(ix:OI) c n{R}(h:fG c n=some R):fg bk 94 [tV (ax b 0),H ak n] (dB b c ix) (fun _:OI=>tT [lI R.1,gM R.2]) (fun _=>(dB b c ix)):=by
 refine fg.of Tryz.func94 M M M fun w0 S0=>?_;refine(show CG _ _ _ [bx (rH aZ [(1,aK (ix.h 0).1 (ix.h 0).2 c.kinds.length),(2,aK (ix.h 1).1 (ix.h 1).2 c.first.length)]) 102 b c,gT pm 23 (ix.h 0).1 (ix.h 0).2 c.kinds,gT cB 3 (ix.h 1).1 (ix.h 1).2 c.first] _ from ?_);refine aV<|dn M<|oF cB<|cR<|cb<|aJ<|cy h fun e q_e h=>?_
 refine im (ts:=[_,_,_,_,_,_,_,_,_]) mixed M M
  ⟨jt M M,
  ⟨eH 15 0 M M (gN (D M)),
  ⟨eH 16 1 M M (rJ 1 lG M M M),
  ⟨eH 17 2 M M (gh qw M (.head _) (.tail _ (.head _)) (D M)),
  ⟨pN 3 M M (nG j6 fe M M),
  ⟨jF 4 cn M M,
  ⟨gr 18 3 20 5 M M M (bn sR eM M (mD (D M)) (D M) q_e),
  ⟨jF 6 eM M M,
  ⟨eH 22 7 M M (zy M),
  aQ⟩⟩⟩⟩⟩⟩⟩⟩⟩ ?_
 refine aB<|aV<|ca qT lY eM M<|c9 fS M<|K (oS (D M) hI)<|bu M<|aW M (gR nj nh M M)<|aW M (gQ vE M M)<|aW M (pu rE M)<|aW M (fun T=>oS (dp M T) hI)<|hM M<|bu M<|aW M (gR qT lY M M)<|aW M (gQ eM M M)<|aW M (pu fS M)<|aW M (gR nj nh M M)<|aW M (gQ vE M M)<|aW M (pu rE M)<|aW M (fun T=>lr (dp M T) (dp M T))<|aW M (fun T=>s4 (dp M T) hI)<|hM M<|bu M ?_;refine cy h fun t q_t h=>aW M (gR qT lY M M)<|aW M (gQ eM M M)<|aW M (fL M) ?_
 obtain⟨r,h1t,h0t⟩:=og q_t
 have q_rg:=fun V=>(h1t V).1
 refine aW M (fun T=>ce Rg (MI _ _ (q_rg T)) ⟨(dp M T),(dp M T),aQ⟩)<|K (fI (D M) (fun V=>(dp M V)) (fun V=>(h1t V).2) h0t)<|aT M<|bm<|bu M<|K (jn (D M))<|dq h M (fun h=>?_) (fun h=>?_)
 ·exact aV<|oF cB<|cR<|dG<|au<|aH<|aH<|aH<|so h▸ji (ts:=[lI ([]),gM false]) (rvs:=[.tmp 4,.tmp 5]) M M ⟨aP M,aP M,aQ⟩ qg M M
 ·refine ko<|aV<|bC false cB 3<|K (bz sD)<|cb<|bm<|ca qT lY eM M<|c9 fS M<|K (cj hI)<|cb<|av<|bE (k:=52) M fun hN=>ci ?_;refine aN (pK (h3:=fun ls i out l c1=>(n.Keys.drop i=ls)/\fv n e t ls out=some R) (Of:=fun _ i out l c1=>[fi cB 3 l c1 out,bx (rH aZ [(1,aK (ix.h 0).1 (ix.h 0).2 c.kinds.length),(2,aK (ix.h 1).1 (ix.h 1).2 c.first.length)]) 102 b c,gT pm 23 (ix.h 0).1 (ix.h 0).2 c.kinds,gT cB 3 (ix.h 1).1 (ix.h 1).2 c.first]) (Gf:=fun _ i out l c1=>[(3,bw ak n),(6,lI e),(7,gM t),(8,sO l c1 out),(52,lI n.Keys),(53,jq n.Keys),(54,cA (i:Int))]) (fun i out l c1 h=>?_) (fun e1 tl ih i out l c1 h=>?_) n.Keys 0 xw none 0 ⟨M,h⟩) (bv M)
  ·obtain⟨I,h⟩:=h
   refine eQ I M<|aB<|bm<|ca nj nh vE M<|c9 rE M<|K (cj hI)<|cb<|av<|bE (k:=67) M fun hN1=>?_;refine ci ?_;refine aN (mX (h3:=fun ls1 i1 out1 l1 c2 ok=>(n.Aggs.drop i1=ls1)/\ek e ls1 out1 ok=some R) (Of:=fun _ i1 out1 l1 c2 ok=>[fi cB 3 l1 c2 out1,bx (rH aZ [(1,aK (ix.h 0).1 (ix.h 0).2 c.kinds.length),(2,aK (ix.h 1).1 (ix.h 1).2 c.first.length)]) 102 b c,gT pm 23 (ix.h 0).1 (ix.h 0).2 c.kinds,gT cB 3 (ix.h 1).1 (ix.h 1).2 c.first]) (Gf:=fun _ i1 out1 l1 c2 ok=>[(6,lI e),(7,gM ok),(8,sO l1 c2 out1),(67,gP (dt) n.Aggs),(68,jq n.Aggs),(69,cA (i1:Int))]) (fun i1 out1 l1 c2 ok h=>?_) (fun e2 tl1 ih1 i1 out1 l1 c2 ok h=>?_) n.Aggs 0 out l c1 t ⟨M,h⟩) (bv M)
   ·obtain⟨hx1,h⟩:=h
    refine eQ hx1 M<|aB<|aY M<|bu M<|jm M<|bF M<|o6<|fC 8 M ?_;exact fC 88 M<|fC 4 M<|o7 4 M<|aM<|aH<|aH<|aH<|so h▸ji (ts:=[lI out1,gM ok]) (rvs:=[.tmp 4,.tmp 5]) M M ⟨aP M,aP M,aQ⟩ qg M M
   ·obtain⟨hx1,h⟩:=h
    refine eP hx1 M<|aJ<|av<|aV<|iq rE tF M (fz hx1)<|aC tF Ja M fun b1=>aO tF ae M<|aD 12 M<|cb<|aV<|bA tF M ?_;refine bu M<|eg h Rf (MH _ _) (cm M) fun r1 h=>bu M<|bS M M<|bS M M<|jm M<|aT M<|aG<|bu M<|bu M<|K (aR (r:=cB) (ys:=[r1.1]) (xs:=[.tmp 80]) fS cn M M M M M ⟨(D M),aQ⟩)<|cy h fun out2 q_out2 h=>dm cn M M M M fS M M (D M) (D M) q_out2 fun l2 c3=>bu M<|bu M<|aW M (fL M)<|hM M<|jm M<|jm M<|bq<|bh ?_;refine aB<|aG<|K (RC (Hx hx1 hN1) M)<|bu M<|bq ?_;exact bj (aN (ih1 (i1+1) out2 l2 c3 (ok&&r1.2) ⟨dC hx1,h⟩) (bv M))
  ·obtain⟨I,h⟩:=h
   refine eP I M<|aJ<|av<|aV<|iq fS cn M (fz I)<|aT M<|aG<|bu M<|bu M<|bu M<|cy h fun e3 q_e3 h=>?_;refine iq fS cn M q_e3<|K (aR (r:=cB) (ys:=[e3]) (xs:=[.tmp 62]) fS cn M M M M M ⟨(D M),aQ⟩)<|cy h fun out3 q_out3 h=>dm cn M M M M fS M M (D M) (D M) q_out3 fun l3 c4=>jm M<|bq<|dQ I hN M ?_;exact bj (aN (ih (i+1) out3 l3 c4 ⟨dC I,h⟩) (bv M))

def Qw(b:Nat)(ix:OI) c n{R}(h:eK c n=some R):fg bk 95 [tV (ax b 0),H ak n] (dB b c ix) (fun _:OI=>tT [lI R.1,gM R.2]) (fun _=>(dB b c ix)):=by
 refine fg.of Tryz.func95 M M M fun w0 S0=>?_;refine(show CG _ _ _ [bx (rH aZ [(1,aK (ix.h 0).1 (ix.h 0).2 c.kinds.length),(2,aK (ix.h 1).1 (ix.h 1).2 c.first.length)]) 102 b c,gT pm 23 (ix.h 0).1 (ix.h 0).2 c.kinds,gT cB 3 (ix.h 1).1 (ix.h 1).2 c.first] _ from ?_);refine aV<|dn M<|oF cB<|cR<|cb<|aV<|ca kM gX hU M<|c9 lJ M<|K (gz (D M) hI)<|bu M<|aW M (gR kM gX M M)<|aW M (gQ hU M M)<|aW M (pu lJ M)<|aW M (fun T=>oS (dp M T) hI)<|hM M<|aT M<|aV ?_;refine bC false cB 3<|K (bz sD)<|cb<|bm<|ca kM gX hU M<|c9 lJ M<|K (cj hI)<|cb<|av<|bE (k:=23) M fun hN=>ci ?_;refine aN (mX (h3:=fun ls i out l c1 ok=>(n.Items.drop i=ls)/\eJ c n ls out ok=some R) (Of:=fun _ i out l c1 ok=>[fi cB 3 l c1 out,bx (rH aZ [(1,aK (ix.h 0).1 (ix.h 0).2 c.kinds.length),(2,aK (ix.h 1).1 (ix.h 1).2 c.first.length)]) 102 b c,gT pm 23 (ix.h 0).1 (ix.h 0).2 c.kinds,gT cB 3 (ix.h 1).1 (ix.h 1).2 c.first]) (Gf:=fun _ i out l c1 ok=>[(0,tV (ax b 0)),(3,bw ak n),(6,gM ok),(7,sO l c1 out),(23,gP (ah) n.Items),(24,jq n.Items),(25,cA (i:Int))]) (fun i out l c1 ok h=>?_) (fun e tl ih i out l c1 ok h=>?_) n.Items 0 xw none 0 ((decide ((1:Int)<=(n.Items.length:Int)))&&(decide ((n.Items.length:Int)<=(16:Int)))) ⟨M,h⟩) (bv M)
 ·obtain⟨I,h⟩:=h
  refine eQ I M<|aB<|aY M<|bu M<|jm M<|bF M<|o6<|fC 7 M ?_;exact fC 52 M<|fC 4 M<|o7 4 M<|aM<|aH<|aH<|aH<|so h▸ji (ts:=[lI out,gM ok]) (rvs:=[.tmp 4,.tmp 5]) M M ⟨aP M,aP M,aQ⟩ qg M M
 ·obtain⟨I,h⟩:=h
  refine eP I M<|aJ<|av<|aV<|iq lJ aX M (fz I)<|aC aX cF M fun b1=>aO aX ae M<|aD 9 M<|cb<|aJ<|cy h fun e1 q_e1 h=>cy h fun r q_r h=>?_
  refine im (ts:=[_,_,_,_,_,_,_,_,_,_,_,_,_,_,_]) mixed M M
   ⟨pN 9 M M (oI aX M M),
   ⟨jt M M,
   ⟨eH 31 1 M M (gN (D M)),
   ⟨eH 32 2 M M (rJ 1 lG M M M),
   ⟨eH 33 3 M M (gh qw M (.tail _ (.head _)) (.tail _ (.tail _ (.head _))) (D M)),
   ⟨pN 3 M M (nG j6 fe M M),
   ⟨jF 5 cn M M,
   ⟨gr 34 4 36 6 M M M (bn sR eM M (mD (D M)) (D M) q_e1),
   ⟨jF 7 eM M M,
   ⟨gr 30 0 38 8 M M M (ce KY (C6 _ _ q_r) ⟨(D M),(D M),aQ⟩),
   ⟨eH 39 9 M M (m0 M),
   ⟨eH 29 10 M M (Bb M M),
   ⟨eH 29 10 M M (Bb M M),
   ⟨eH 40 11 M M (zy M),
   ⟨eH 41 12 M M (zy M),
   aQ⟩⟩⟩⟩⟩⟩⟩⟩⟩⟩⟩⟩⟩⟩⟩ ?_
  refine aB<|aG<|bu M<|bu M<|K (aR (r:=cB) (ys:=[r.1]) (xs:=[.tmp 43]) fS cn M M M M M ⟨(D M),aQ⟩)<|cy h fun out1 q_out1 h=>dm cn M M M M fS M M (D M) (D M) q_out1 fun l1 c2=>bu M<|bu M<|aW M (fL M)<|aW M (nm M)<|hM M<|jm M<|jm M<|bq<|dQ I hN M ?_;exact bj (aN (ih (i+1) out1 l1 c2 (ok&&(r.2==(0:Int))) ⟨dC I,h⟩) (bv M))

def Qv(b:Nat)(ix:OI) c n{R}(h:eo c n=some R):fg bk 96 [tV (ax b 0),H ak n] (dB b c ix) (fun _:OI=>tT [lI R.1,gM R.2]) (fun _=>(dB b c ix)):=by
 refine fg.of Tryz.func96 M M M fun w0 S0=>?_;refine(show CG _ _ _ [bx (rH aZ [(1,aK (ix.h 0).1 (ix.h 0).2 c.kinds.length),(2,aK (ix.h 1).1 (ix.h 1).2 c.first.length)]) 102 b c,gT pm 23 (ix.h 0).1 (ix.h 0).2 c.kinds,gT cB 3 (ix.h 1).1 (ix.h 1).2 c.first] _ from ?_);refine aV<|dn M<|oF cB<|cR<|cb<|aJ<|cy h fun e q_e h=>?_
 refine im (ts:=[_,_,_,_,_,_,_,_,_,_]) mixed M M
  ⟨jt M M,
  ⟨eH 6 0 M M (gN (D M)),
  ⟨eH 7 1 M M (rJ 1 lG M M M),
  ⟨eH 8 2 M M (gh qw M (.head _) (.tail _ (.head _)) (D M)),
  ⟨pN 3 M M (nG j6 fe M M),
  ⟨jF 4 cn M M,
  ⟨gr 9 3 11 5 M M M (bn sR eM M (mD (D M)) (D M) q_e),
  ⟨jF 6 eM M M,
  ⟨eH 13 7 M M (zy M),
  ⟨Lk M (RD),
  aQ⟩⟩⟩⟩⟩⟩⟩⟩⟩⟩ ?_
 exact aB<|lz<|aH<|aH<|aH<|so h▸ji (ts:=[lI e,gM true]) (rvs:=[.tmp 4,.tmp 5]) M M ⟨aP M,aP M,aQ⟩ qg M M

def Qu(b:Nat)(ix:OI) c n{R}(h:fE c n=some R):fg bk 97 [tV (ax b 0),H ak n] (dB b c ix) (fun _:OI=>tT [lI R.1,gM R.2]) (fun _=>(dB b c ix)):=by
 refine fg.of Tryz.func97 M M M fun w0 S0=>?_;refine(show CG _ _ _ [bx (rH aZ [(1,aK (ix.h 0).1 (ix.h 0).2 c.kinds.length),(2,aK (ix.h 1).1 (ix.h 1).2 c.first.length)]) 102 b c,gT pm 23 (ix.h 0).1 (ix.h 0).2 c.kinds,gT cB 3 (ix.h 1).1 (ix.h 1).2 c.first] _ from ?_);refine aV<|dn M<|oF cB<|cR<|cb<|aJ<|cy h fun e q_e h=>cy h fun e1 q_e1 h=>?_
 refine im (ts:=[_,_,_,_,_,_,_,_,_,_,_,_,_,_,_,_,_,_]) mixed M M
  ⟨jt M M,
  ⟨eH 12 0 M M (gN (D M)),
  ⟨eH 13 1 M M (rJ 1 lG M M M),
  ⟨eH 14 2 M M (gh qw M (.head _) (.tail _ (.head _)) (D M)),
  ⟨pN 3 M M (nG j6 fe M M),
  ⟨jF 4 cn M M,
  ⟨gr 15 3 17 5 M M M (bn sR eM M (mD (D M)) (D M) q_e),
  ⟨jF 6 eM M M,
  ⟨jt M M,
  ⟨eH 20 8 M M (gN (D M)),
  ⟨eH 21 9 M M (rJ 1 lG M M M),
  ⟨eH 22 10 M M (gh qw M (.head _) (.tail _ (.head _)) (D M)),
  ⟨pN 3 M M (nG pT kG M M),
  ⟨jF 12 cn M M,
  ⟨gr 23 11 25 13 M M M (bn sR eM M (mD (D M)) (D M) q_e1),
  ⟨jF 14 eM M M,
  ⟨eH 19 7 M M (zy M),
  ⟨eH 27 15 M M (zy M),
  aQ⟩⟩⟩⟩⟩⟩⟩⟩⟩⟩⟩⟩⟩⟩⟩⟩⟩⟩ ?_
 refine aB<|bm<|bu M<|c9 fS M<|bu M<|c9 fS M<|K (mn (D M) (D M))<|dq h M (fun h=>?_) (fun h=>?_)
 ·exact aV<|oF cB<|cR<|dG<|au<|aH<|aH<|aH<|so h▸ji (ts:=[lI ([]),gM false]) (rvs:=[.tmp 4,.tmp 5]) M M ⟨aP M,aP M,aQ⟩ qg M M
 ·refine ko<|aY M<|q5 h KV (C5 _) (cm M) fun r h l c1=>aT M<|aV<|cR<|cb<|bm<|bu M<|c9 fS M<|K (cj hI)<|cb<|av ?_;refine bE (k:=35) M fun hN=>ci ?_;refine aN (uE (h3:=fun ls i out ok=>(e1.drop i=ls)/\de ls i out ok=some R) (Of:=fun _ i out ok=>[fi cB 3 l c1 out,bx (rH aZ [(1,aK (ix.h 0).1 (ix.h 0).2 c.kinds.length),(2,aK (ix.h 1).1 (ix.h 1).2 c.first.length)]) 102 b c,gT pm 23 (ix.h 0).1 (ix.h 0).2 c.kinds,gT cB 3 (ix.h 1).1 (ix.h 1).2 c.first]) (Gf:=fun _ i out ok=>[(8,sO l c1 out),(9,gM ok),(35,lI e1),(36,jq e1),(37,cA (i:Int))]) (fun i out ok h=>?_) (fun e2 tl ih i out ok h=>?_) e1 0 r true ⟨M,h⟩) (bv M)
  ·obtain⟨I,h⟩:=h
   refine eQ I M<|aB<|aY M<|bu M<|jm M<|bF M<|o6<|fC 8 M ?_;exact fC 65 M<|fC 4 M<|o7 4 M<|aM<|aH<|aH<|aH<|so h▸ji (ts:=[lI out,gM ok]) (rvs:=[.tmp 4,.tmp 5]) M M ⟨aP M,aP M,aQ⟩ qg M M
  ·obtain⟨I,h⟩:=h
   refine eP I M<|aJ<|av<|aY M<|iq fS cn M (fz I)<|jm M<|aT M ?_;refine iZ (h3:=fun out1=>gA (de tl) i e2 ok out1=some R) (Of:=fun out1=>[fi cB 3 l c1 out1,bx (rH aZ [(1,aK (ix.h 0).1 (ix.h 0).2 c.kinds.length),(2,aK (ix.h 1).1 (ix.h 1).2 c.first.length)]) 102 b c,gT pm 23 (ix.h 0).1 (ix.h 0).2 c.kinds,gT cB 3 (ix.h 1).1 (ix.h 1).2 c.first]) (Gf:=fun out1=>[(8,sO l c1 out1),(9,gM ok),(10,cA (i:Int)),(11,cA e2),(35,lI e1),(36,jq e1),(37,cA (i:Int))]) (fun out1 h=>?_) (fun af=>?_)
   ·skip
    refine aG<|bu M<|bu M<|cy h fun t q_t h=>aW M (fL M)<|aW M (fL M) ?_
    obtain⟨e3,h1t,h0t⟩:=og q_t
    have q_e3g:=fun V=>(h1t V).1
    refine aW M (fun T=>bW fS cn (.head _) (dp M T) (dp M T) (q_e3g T))<|aW M (fun T=>dd (r:=cB) (i:=(i:Int)) (foff:=0) cn M M bN M (.head _) (q_e3g T) (dp M T))<|aW M (fL M)<|aW M (fun T=>jP (dp M T) (dp M T))<|aW M (yy M)<|sH M M M M (fun T=>m0 M)<|sH M M M M (fun T=>jP (dp M T) hI)<|aW M (fun T=>uO (dp M T) (fun V=>(dp M (Dh T (xO V)))))<|K (fI (D M) (fun V=>(dp M V)) (fun V=>(h1t V).2) h0t)<|jm M<|bq<|dQ I hN M ?_;exact bj (aN (ih (i+1) out1 t ⟨dC I,h⟩) (bv M))
   ·skip
    refine aY M<|bu M<|cy h fun e4 q_e4 h=>K (bW fS cn (.head _) (D M) (D M) q_e4)<|K (dd (r:=cB) (i:=(i:Int)) (foff:=0) cn M M bN M (.head _) q_e4 (D M))<|dg M<|dq h M (fun h=>?_) (fun h=>?_)
    ·refine aG<|bu M<|bu M<|bu M<|K (bW fS cn (.head _) (D M) (D M) q_e4)<|cy h fun st q_st h=>ke cn M ae M q_e4 (so q_st) (D M) (D M)<|gm (dU (so q_st)) 8 M<|gm (dU (so q_st)) 42 M<|gm (dU (so q_st)) 47 M<|bq ?_;exact cT (af st h) (bv M)
    ·refine cg ?_;exact cT (af out h) (bv M)

def MG in1 o{R}(h:jj in1 o=some R):cI bk 133 [H fU o,bw pm in1] (gM R):=by
 exact eC Tryz.func133 M<|aV<|dn M<|cR<|cb<|aV<|ca Kl EP cn M<|K (mE (D M) hI)<|bu M<|bL M (gR Kl EP M M)<|bL M (gQ cn M M)<|bL M (fun T=>oI eM M M)<|bL M (pu fS M)<|bL M (fun T=>gz (dp M T) (dp M T))<|mI M<|bF M<|so h▸bZ M M

def Mw s f{R}(h:gu s f=some R):cI bk 153 [gP (fU) s,(kq bk Je rG (fun(x:ly)=>f x))] (cA R):=by
 refine eC Tryz.func153 M<|aV<|da<|cb<|bm<|bu M<|c9 yY M<|K (cj hI)<|cb<|av<|bE (k:=6) M fun hN=>ci ?_;refine aN (kX (h3:=fun ls i=>(s.drop i=ls)/\dh f ls i=some R) (Of:=fun _ i=>[]) (Gf:=fun _ i=>[(0,gP (fU) s),(1,(kq bk Je rG (fun(x:ly)=>f x))),(7,jq s),(8,cA (i:Int))]) (fun i h=>?_) (fun e tl ih i h=>?_) s 0 ⟨M,h⟩) (bv M)
 ·obtain⟨I,h⟩:=h
  exact eQ I M<|aB<|aV<|fK<|so h▸bZ M M
 ·obtain⟨I,h⟩:=h
  refine eP I M<|aJ<|av<|aY M<|aT M<|aY M<|bu M<|bu M<|yw yY FE M (fz I) ?_;refine bA FE M<|cy h fun r q_r h=>K (mQ (args:=Je) (res:=Fv) (f:=(fun(x:ly)=>f x)) (x:=((e):ly)) (D M) q_r ⟨(D M),aQ⟩)<|dq h M (fun h=>?_) (fun h=>?_)
  ·exact aY M<|bF M<|eX<|au<|eX<|so h▸bZ M M
  ·refine cg<|dQ I hN M ?_;exact bj (aN (ih (i+1) ⟨dC I,h⟩) (bv M))

end Go.Proofs.YtbmmihfagmchaaaGreat

