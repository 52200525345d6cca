/- cP of this claim: P3. -/
import Derived.Test.YtbmmihfagmchaaaGreatRbT
import Derived.Test.YtbmmihfagmchaaaGreatRbP2
set_option linter.all false
namespace Go.Proofs.YtbmmihfagmchaaaGreat
open Go
set_option maxRecDepth 100000

def MF s f{R}(h:d8 s f=some R):cI bk 134 [gP (fU) s,(kq bk Je rG (fun(x:ly)=>f x))] (gM R):=by
 exact eC Tryz.func134 M<|aV<|cR<|cb<|aY M<|bu M<|eg h Q3 (Mw _ _) (cm M) fun r h=>K (gz (D M) hI)<|bF M<|so h▸bZ M M

def Qt(b:Nat)(ix:OI) c n{R}(h:fF c n=some R):fg bk 98 [tV (ax b 0),H ak n] (dB b c ix) (fun _:OI=>tT [lI R.1,gM R.2]) (fun _=>(dB b c ix)):=by
 refine fg.of Tryz.func98 M M M fun w0 S0=>?_;refine(show CG _ _ _ [bx (rH aZ [(1,aK (ix.h 0).1 (ix.h 0).2 c.kinds.length),(2,aK (ix.h 1).1 (ix.h 1).2 c.first.length)]) 102 b c,gT pm 23 (ix.h 0).1 (ix.h 0).2 c.kinds,gT cB 3 (ix.h 1).1 (ix.h 1).2 c.first] _ from ?_);refine aV<|dn M<|oF cB<|cR<|cb<|aJ<|cy h fun e q_e h=>?_
 refine jC 9 [tc (tV (ax b 0)),tc (tV (ax b 0)),tc (tV (ax b 1)),tc (tO pm (ix.h 0).1 (ix.h 0).2 c.kinds),tc (bw cB n.A),tc (cA n.A),tc (bw pm e),tc (lI e),([8],fun s=>tV (ax ((s.getD 0 qg).h 0).2 0))] [false,false,false,false,false,false,false,false,true] [fun _=>[bx (rH aZ [(1,aK (ix.h 0).1 (ix.h 0).2 c.kinds.length),(2,aK (ix.h 1).1 (ix.h 1).2 c.first.length)]) 102 b c,gT pm 23 (ix.h 0).1 (ix.h 0).2 c.kinds,gT cB 3 (ix.h 1).1 (ix.h 1).2 c.first],fun sg=>[bx pm 23 ((sg 8).h 0).2 ([]),bx (rH aZ [(1,aK (ix.h 0).1 (ix.h 0).2 c.kinds.length),(2,aK (ix.h 1).1 (ix.h 1).2 c.first.length)]) 102 b c,gT pm 23 (ix.h 0).1 (ix.h 0).2 c.kinds,gT cB 3 (ix.h 1).1 (ix.h 1).2 c.first]] M mixed M M M M M
  ⟨⟨[⟨0,fun _=>tV (ax b 0),none⟩],_,0,1,M,⟨(fun _=>M),aQ⟩,M,M,M,M,M,fun _ sg _ _=>ac M (m0 M)⟩,
  ⟨⟨[⟨9,fun _=>tV (ax b 0),some 0⟩],_,0,1,M,⟨(fun _=>M),aQ⟩,M,M,M,M,M,fun _ sg _ _=>ac M (gN (D M))⟩,
  ⟨⟨[⟨10,fun _=>tV (ax b 0),some 1⟩],_,0,1,M,⟨(fun _=>M),aQ⟩,M,M,M,M,M,fun _ sg _ _=>ac M (rJ 1 lG M M M)⟩,
  ⟨⟨[⟨11,fun _=>tV (ax b 1),some 2⟩],_,0,1,M,⟨(fun _=>M),aQ⟩,M,M,M,M,M,xy (fun sg=>ac M (gh qw M (.head _) (.tail _ (.head _)) (D M))) (si (fun sg=>ac M (gh qw M (.tail _ (.head _)) (.tail _ (.tail _ (.head _))) (D M))))⟩,
  ⟨⟨[⟨3,fun _=>bw ak n,none⟩],_,0,1,M,⟨(fun _=>M),aQ⟩,M,M,M,M,M,fun _ sg _ _=>ac M (nG j6 fe M M)⟩,
  ⟨⟨[⟨13,fun _=>bw cB n.A,some 4⟩],_,0,1,M,⟨(fun _=>M),aQ⟩,M,M,M,M,M,fun _ sg _ _=>ac M (oI cn M M)⟩,
  ⟨⟨[⟨12,fun _=>tO vz (ix.h 0).1 (ix.h 0).2 c.kinds,some 3⟩,⟨14,fun _=>H cB n.A,some 5⟩],_,0,1,M,⟨(fun _=>M),(fun _=>M),aQ⟩,M,M,M,M,M,fun _ sg _ _=>ac M (bn sR eM M (mD (D M)) (D M) q_e)⟩,
  ⟨⟨[⟨15,fun _=>bw vz e,some 6⟩],_,0,1,M,⟨(fun _=>M),aQ⟩,M,M,M,M,M,fun _ sg _ _=>ac M (oI eM M M)⟩,
  ⟨⟨[],_,M,aQ,M,M,M,fun sg=>cx M (lk (r:=vz) (x:=[]) eM (fun _=>⟨none,0,M,iQ _,mC _,.inl M⟩))⟩,
  aQ⟩⟩⟩⟩⟩⟩⟩⟩⟩ (fun sg=>?_)
 refine(show RG _ _ _ _ [_,_,_,_] _ from ?_);refine aO eM ae M<|aD 6 M<|cb<|aV<|K ((show bR _ _ _ _ ((kq bk Je rG (fun(x:ly)=>(jj e) x)))from pD (cts:=[bw pm e]) (caps:=[.tmp 6]) Re ⟨(D M),aQ⟩ (fun x y h=>MG _ _ h)))<|aT M<|aV<|ca rn lZ Bn M<|c9 yY M<|K (oS (D M) hI)<|bu M<|cy h fun t q_t h=>aW M (gR rn lZ M M)<|aW M (gQ Bn M M)<|aW M (fL M) ?_
 obtain⟨r,h1t,h0t⟩:=og q_t
 have q_rg:=fun V=>(h1t V).1
 refine aW M (fun T=>ce Rd (MF _ _ (q_rg T)) ⟨(dp M T),(dp M T),aQ⟩)<|aW M (yx M)<|K (fI (D M) (fun V=>(dp M V)) (fun V=>(h1t V).2) h0t)<|bu M<|aW M (gR zi uv M M)<|aW M (gQ cn M M)<|aW M (fun T=>gz (dp M T) hI)<|hM M<|bu M<|aW M (gR zi uv M M)<|aW M (gQ cn M M)<|aW M (fun T=>oS (dp M T) hI)<|hM M<|aT M<|aJ ?_
 refine im (ts:=[_,_,_,_,_,_,_,_,_,_,_,_,_,_,_,_,_,_,_]) mixed M M
  ⟨pN 6 M M (oI eM M M),
  ⟨jt M M,
  ⟨eH 40 1 M M (m0 M),
  ⟨tB 0 41 2 M M M (cu M M M M (fun T=>m0 M)),
  ⟨iE 42 3 41 2 M M M (cu M M M M (fun T=>gN (dp M T))),
  ⟨iE 43 4 41 2 M M M (cu M M M M (fun T=>mP (n:=1) lG M (dp M T) M)),
  ⟨iE 44 5 41 2 M M M (cu M M M M (fun T=>gh qw M (.head _) (.tail _ (.head _)) (dp M T))),
  ⟨iE 45 6 41 2 M M M (cu M M M M (fun T=>j3 sR (mD (dp M T)))),
  ⟨tB 0 41 2 M M M (cu M M M M (fun T=>m0 M)),
  ⟨iE 47 8 41 2 M M M (cu M M M M (fun T=>gN (dp M T))),
  ⟨iE 48 9 41 2 M M M (cu M M M M (fun T=>mP (n:=0) C1 M (dp M T) M)),
  ⟨iE 49 10 41 2 M M M (cu M M M M (fun T=>mP (n:=0) fY M (dp M T) M)),
  ⟨iE 50 11 41 2 M M M (cu M M M M (fun T=>bf (r:=rH aZ [(1,aK (ix.h 0).1 (ix.h 0).2 c.kinds.length),(2,aK (ix.h 1).1 (ix.h 1).2 c.first.length)]) (x:=c) na M M (OL (kW s7 d5)) (.head _) (dp M T))),
  ⟨iE 51 12 41 2 M M M (cu M M M M (fun T=>j3 jR (dp M T))),
  ⟨iE 52 13 41 2 M M M (cu M M M M (fun T=>fN (dp M T) hI)),
  ⟨BI 46 7 53 14 41 2 M M M M (cu M M M M (fun T=>jP (dp M T) (dp M T))),
  ⟨gr 41 2 54 15 M M M (Px M M),
  ⟨eH 39 0 M M (zy M),
  ⟨eH 55 16 M M (zy M),
  aQ⟩⟩⟩⟩⟩⟩⟩⟩⟩⟩⟩⟩⟩⟩⟩⟩⟩⟩⟩ ?_
 exact aB<|lz<|aH<|aH<|aH<|so h▸ji (ts:=[lI e,gM (((t&&(decide (pr<=n.Limit)))&&(decide (n.Limit<=(2147483647:Int))))&&((c.kinds.length:Int)==(IntKind.i64.wrap ((c.Logic.Nodes.length:Int)-(1:Int)))))]) (rvs:=[.tmp 4,.tmp 5]) M M ⟨aP M,aP M,aQ⟩ qg M M

def OP n{R}(h:qP n=some R):cI bk 99 [H ak n] (gM R):=by
 refine eC Tryz.func99 M<|aV<|dn M<|cR<|cb<|aV<|ca AE ta cn M<|dg M<|bu M<|aW M (gR rX ni M M)<|aW M (gQ eM M M)<|aW M (pu fS M)<|aW M (nm M)<|hM M<|bu M<|aW M (gR C0 wd M M)<|aW M (gQ Jn M M)<|aW M (yx M)<|hM M<|bu M ?_;refine aW M (gR kN fW M M)<|aW M (fun T=>iN dk M cE M (dp M T))<|aW M (gQ iY M M)<|aW M (pu gp M)<|aW M (nm M)<|hM M<|bu M<|aW M (gR qT lY M M)<|aW M (gQ eM M M)<|aW M (pu fS M)<|aW M (nm M)<|hM M<|bu M<|aW M (gR nj nh M M)<|aW M (gQ vE M M)<|aW M (pu rE M)<|aW M (nm M)<|hM M<|bu M<|aW M (gR kM gX M M)<|aW M (gQ hU M M)<|aW M (pu lJ M)<|aW M (nm M)<|hM M ?_;exact bu M<|aW M (gR rn lZ M M)<|aW M (gQ Bn M M)<|aW M (pu yY M)<|aW M (nm M)<|hM M<|bu M<|aW M (gR zi uv M M)<|aW M (gQ cn M M)<|aW M (nm M)<|hM M<|bF M<|so h▸bZ M M

def MS n{R}(h:qQ n=some R):cI bk 100 [H ak n] (H ak R):=by
 refine eC Tryz.func100 M<|aV<|rz (D M) M fun b=>aC dR io M fun b1=>cb<|bm<|bI 0 nk M<|K (bf cn M M fX (.tail _ (.head _)) (D M))<|cb<|av<|aV<|dg M<|aT M<|o8 h M (fun h=>?_) (fun h=>?_)
 ·exact aG<|bI 3 AE M<|aS<|cW cn M zZ M (D M) hI<|bI 4 rX M<|cW eM M qC M (D M) By<|bq<|bh<|aB<|aV<|K (bf (x:=(aa.mk n.Op n.A n.B (0:Int) ([]) n.Left n.Cond n.Keys n.Aggs n.Items n.Order n.Limit)) dR M M bN (.head _) (D M))<|aS<|aO dR ae M<|aD 2 M<|dG<|aM<|so h▸gE M dR M M M
 ·refine aV<|dg M<|aT M<|o8 h M (fun h=>?_) (fun h=>?_)
  ·exact aG<|K (bP aX u9 cF M)<|bI 5 C0 M<|aS<|cW Jn M zY M (D M) hB<|bI 6 kN M<|aO aX lN M<|bq<|bh<|aB<|aV<|K (bf (x:=(aa.mk n.Op n.A n.B n.Table n.Kinds false kp n.Keys n.Aggs n.Items n.Order n.Limit)) dR M M bN (.head _) (D M))<|aS<|aO dR ae M<|aD 2 M<|dG<|aM<|so h▸gE M dR M M M
  ·refine aV<|dg M<|aT M<|o8 h M (fun h=>?_) (fun h=>?_)
   ·exact aG<|K (bP aX u9 cF M)<|bI 6 kN M<|aS<|aO aX lN M<|bq<|bh<|aB<|aV<|K (bf (x:=(aa.mk n.Op n.A n.B n.Table n.Kinds n.Left kp n.Keys n.Aggs n.Items n.Order n.Limit)) dR M M bN (.head _) (D M))<|aS<|aO dR ae M<|aD 2 M<|dG<|aM<|so h▸gE M dR M M M
   ·refine aV<|dg M<|aT M<|o8 h M (fun h=>?_) (fun h=>?_)
    ·exact aG<|bI 7 qT M<|aS<|cW eM M vL M (D M) By<|bI 8 nj M<|cW vE M FN M (D M) By<|bq<|bh<|aB<|aV<|K (bf (x:=(aa.mk n.Op n.A n.B n.Table n.Kinds n.Left n.Cond ([]) ([]) n.Items n.Order n.Limit)) dR M M bN (.head _) (D M))<|aS<|aO dR ae M<|aD 2 M<|dG<|aM<|so h▸gE M dR M M M
    ·refine aV<|dg M<|aT M<|o8 h M (fun h=>?_) (fun h=>?_)
     ·exact aG<|bI 9 kM M<|aS<|cW hU M zX M (D M) By<|bq<|bh<|aB<|aV<|K (bf (x:=(aa.mk n.Op n.A n.B n.Table n.Kinds n.Left n.Cond n.Keys n.Aggs ([]) n.Order n.Limit)) dR M M bN (.head _) (D M))<|aS<|aO dR ae M<|aD 2 M<|dG<|aM<|so h▸gE M dR M M M
     ·refine aV<|dg M<|aT M<|o8 h M (fun h=>?_) (fun h=>?_)
      ·exact aG<|bI 10 rn M<|aS<|cW Bn M yB M (D M) By<|bI 11 zi M<|cW cn M DW M (D M) hI<|bq<|bh<|aB<|aV<|K (bf (x:=(aa.mk n.Op n.A n.B n.Table n.Kinds n.Left n.Cond n.Keys n.Aggs n.Items ([]) (0:Int))) dR M M bN (.head _) (D M))<|aS<|aO dR ae M<|aD 2 M<|dG<|aM<|so h▸gE M dR M M M
      ·exact cg<|bh<|aB<|aV<|K (bf dR M M bN (.tail _ (.head _)) (D M))<|aO dR ae M<|aD 2 M<|dG<|aM<|so h▸gE M dR M M M

def ME op{R}(h:rg op=some R):cI bk 135 [cA op] (cA R):=by
 refine eC Tryz.func135 M<|aV<|da<|cb<|bm<|bu M<|cb<|av<|aV<|dg M<|aT M<|o8 h M (fun h=>?_) (fun h=>?_)
 ·exact aV<|fK<|eX<|so h▸bZ M M
 ·refine iZ (h3:=fun x=>nZ x=some R) (Of:=fun x=>[]) (Gf:=fun x=>[(6,gM x)]) (fun x h=>?_) (fun af=>?_)
  ·skip
   refine o8 h M (fun h=>?_) (fun h=>?_)
   ·exact aV<|fK<|eX<|so h▸bZ M M
   ·exact cg<|bh<|aB<|aV<|fK<|so h▸bZ M M
  ·skip
   refine aV<|dg M<|aT M<|o8 h M (fun h=>?_) (fun h=>?_)
   ·refine cg ?_;exact cT (af (op==(2:Int)) h) (bv M)
   ·refine aG<|dg M<|jm M<|bq ?_;exact cT (af (op==(7:Int)) h) (bv M)

def Pj(b:Nat)(ix:OI) c i{R}(h:iK c i=some R):fg bk 101 [tV (ax b 0),cA i] (dB b c ix) (fun _:OI=>tT [cA R.1,gM R.2]) (fun _=>(dB b c ix)):=by
 refine fg.of Tryz.func101 M M M fun w0 S0=>?_;refine(show CG _ _ _ [bx (rH aZ [(1,aK (ix.h 0).1 (ix.h 0).2 c.kinds.length),(2,aK (ix.h 1).1 (ix.h 1).2 c.first.length)]) 102 b c,gT pm 23 (ix.h 0).1 (ix.h 0).2 c.kinds,gT cB 3 (ix.h 1).1 (ix.h 1).2 c.first] _ from ?_);refine aV<|da<|cR<|cb<|aY M<|K (gN (D M))<|bI 0 C1 M<|bI 0 fY M<|K (bf (r:=rH aZ [(1,aK (ix.h 0).1 (ix.h 0).2 c.kinds.length),(2,aK (ix.h 1).1 (ix.h 1).2 c.first.length)]) (x:=c) na M M (OL (kW s7 d5)) (.head _) (D M))<|bu M<|cy h fun e q_e h=>iq jR dR M q_e<|aC dR io M fun b1=>aO dR ae M<|aD 6 M<|cb<|aJ<|aJ ?_;refine aG<|ca nk fX cn M<|eg h Rc (ME _) (cm M) fun r h=>cb<|av<|aV<|dg M<|aT M<|o8 h M (fun h=>?_) (fun h=>?_)
 ·refine aJ ?_
  refine im (ts:=[_,_,_,_,_,_,_,_,_,_,_]) mixed M M
   ⟨jt M M,
   ⟨pN 6 M M (nG j6 fe M M),
   ⟨jF 1 cn M M,
   ⟨eH 22 2 M M (PA M),
   ⟨eH 23 3 M M (m0 M),
   ⟨tB 6 24 4 M M M (cu M M M M (fun T=>nG pT kG M M)),
   ⟨iE 25 5 24 4 M M M (cu M M M M (fun T=>ic cn M M (dp M T))),
   ⟨iE 26 6 24 4 M M M (cu M M M M (fun T=>jP (dp M T) hI)),
   ⟨gr 24 4 27 7 M M M (Px M M),
   ⟨eH 20 0 M M (zy M),
   ⟨eH 28 8 M M (zy M),
   aQ⟩⟩⟩⟩⟩⟩⟩⟩⟩⟩⟩ ?_
  exact aB<|lz<|eX<|aH<|aH<|aH<|so h▸ji (ts:=[cA i,gM ((e.A==pr)&&(e.B==pr))]) (rvs:=[.tmp 4,.tmp 5]) M M ⟨aP M,aP M,aQ⟩ qg M M
 ·refine aV<|dg M<|aT M<|o8 h M (fun h=>?_) (fun h=>?_)
  ·refine bm<|ca j6 fe cn M<|bu M<|K (fN (D M) hI)<|K (mn (D M) (D M))<|bu M<|bL M (gR pT kG M M)<|bL M (gQ cn M M)<|bL M (zD M)<|mI M<|bu M<|bL M (fL M)<|bL M (nm M)<|mI M<|dq h M (fun h=>?_) (fun h=>?_)
   ·exact aV<|da<|cR<|dG<|au<|eX<|aH<|aH<|aH<|so h▸ji (ts:=[cA 0,gM false]) (rvs:=[.tmp 4,.tmp 5]) M M ⟨aP M,aP M,aQ⟩ qg M M
   ·refine ko<|aJ<|cy h fun e1 q_e1 h=>?_
    refine im (ts:=[_,_,_,_,_,_,_,_,_,_]) mixed M M
     ⟨jt M M,
     ⟨eH 45 0 M M (gN (D M)),
     ⟨eH 46 1 M M (rJ 2 ro M M M),
     ⟨eH 47 2 M M (gh eM M (.head _) (.tail _ (.tail _ (.head _))) (D M)),
     ⟨pN 6 M M (nG j6 fe M M),
     ⟨jF 4 cn M M,
     ⟨gr 48 3 50 5 M M M (bn fS cn M (mD (D M)) (D M) q_e1),
     ⟨jF 6 cn M M,
     ⟨eH 52 7 M M (zy M),
     ⟨Lk M (RD),
     aQ⟩⟩⟩⟩⟩⟩⟩⟩⟩⟩ ?_
    exact aB<|lz<|eX<|aH<|aH<|aH<|so h▸ji (ts:=[cA e1,gM true]) (rvs:=[.tmp 4,.tmp 5]) M M ⟨aP M,aP M,aQ⟩ qg M M
  ·refine cg<|bh<|aB<|aJ<|aJ<|cy h fun t q_t h=>?_
   obtain⟨e2,h1t,h0t⟩:=og q_t
   have q_e2g:=fun V=>(h1t V).1
   refine im (ts:=[_,_,_,_,_,_,_,_,_,_,_,_,_,_,_,_,_,_,_,_,_,_,_,_,_,_,_,_]) mixed M M
    ⟨pN 6 M M (nG pT kG M M),
    ⟨jF 0 cn M M,
    ⟨jt M M,
    ⟨eH 55 2 M M (fN (D M) hI),
    ⟨gr 54 1 56 3 M M M (mn (D M) (D M)),
    ⟨eH 57 4 M M (m0 M),
    ⟨tB 1 58 5 M M M (md M M M M (fun T=>m0 M)),
    ⟨iE 59 6 58 5 M M M (md M M M M (fun T=>jP (dp M T) hI)),
    ⟨gr 58 5 60 7 M M M (RO M M),
    ⟨eH 61 8 M M (m0 M),
    ⟨tB 6 62 9 M M M (md M M M M (fun T=>nG j6 fe M M)),
    ⟨iE 63 10 62 9 M M M (md M M M M (fun T=>ic cn M M (dp M T))),
    ⟨tB 0 62 9 M M M (md M M M M (fun T=>m0 M)),
    ⟨iE 65 12 62 9 M M M (md M M M M (fun T=>gN (dp M T))),
    ⟨iE 66 13 62 9 M M M (md M M M M (fun T=>mP (n:=2) ro M (dp M T) M)),
    ⟨iE 67 14 62 9 M M M (md M M M M (fun T=>gh eM M (.head _) (.tail _ (.tail _ (.head _))) (dp M T))),
    ⟨tB 6 62 9 M M M (md M M M M (fun T=>nG pT kG M M)),
    ⟨iE 69 16 62 9 M M M (md M M M M (fun T=>ic cn M M (dp M T))),
    ⟨BI 68 15 70 17 62 9 M M M M (md M M M M (fun T=>bn fS cn M (mD (dp M T)) (dp M T) (q_e2g T))),
    ⟨iE 71 18 62 9 M M M (md M M M M (fun T=>ic cn M M (dp M T))),
    ⟨iE 72 19 62 9 M M M (md M M M M (fun T=>fN (dp M T) hI)),
    ⟨BI 64 11 73 20 62 9 M M M M (md M M M M (fun T=>mn (dp M T) (dp M T))),
    ⟨gr 62 9 74 21 M M M (kD (D M) (fun V=>(dp M (xO V))) (fun V=>(h1t V).2) h0t),
    ⟨eH 75 22 M M (m0 M),
    ⟨tB 6 76 23 M M M (md M M M M (fun T=>nG j6 fe M M)),
    ⟨iE 77 24 76 23 M M M (md M M M M (fun T=>ic cn M M (dp M T))),
    ⟨iE 78 25 76 23 M M M (md M M M M (fun T=>mE (dp M T) hI)),
    ⟨gr 76 23 79 26 M M M (RO M M),
    aQ⟩⟩⟩⟩⟩⟩⟩⟩⟩⟩⟩⟩⟩⟩⟩⟩⟩⟩⟩⟩⟩⟩⟩⟩⟩⟩⟩⟩ ?_
   refine aB<|o8 h M (fun h=>?_) (fun h=>?_)
   ·exact aV<|da<|cR<|dG<|au<|aH<|aH<|aH<|so h▸ji (ts:=[cA 0,gM false]) (rvs:=[.tmp 4,.tmp 5]) M M ⟨aP M,aP M,aQ⟩ qg M M
   ·refine ko<|aJ<|cy h fun e3 q_e3 h=>?_
    refine im (ts:=[_,_,_,_,_,_,_,_,_,_]) mixed M M
     ⟨jt M M,
     ⟨eH 81 0 M M (gN (D M)),
     ⟨eH 82 1 M M (rJ 2 ro M M M),
     ⟨eH 83 2 M M (gh eM M (.head _) (.tail _ (.tail _ (.head _))) (D M)),
     ⟨pN 6 M M (nG j6 fe M M),
     ⟨jF 4 cn M M,
     ⟨gr 84 3 86 5 M M M (bn fS cn M (mD (D M)) (D M) q_e3),
     ⟨jF 6 cn M M,
     ⟨eH 88 7 M M (zy M),
     ⟨Lk M (RD),
     aQ⟩⟩⟩⟩⟩⟩⟩⟩⟩⟩ ?_
    exact aB<|lz<|aH<|aH<|aH<|so h▸ji (ts:=[cA e3,gM true]) (rvs:=[.tmp 4,.tmp 5]) M M ⟨aP M,aP M,aQ⟩ qg M M

def Mi(b:Nat)(ix:OI)(c:aq):xl bk 90 (fun(x:Int×Bool)=>[cA x.1,gM x.2]) (fun _=>jQ c) (dB b) (dB b c ix) [bw (rT (tV (ax b 0))) ()]:=by
 refine xl.of Tryz.func90 M M M fun Sg yld s R h hx yv hy e he w0 S0 B hB=>?_
 replace h:jQ c yld s=some R:=h
 refine(show CG _ _ _ [e,bx (rH aZ [(1,aK (ix.h 0).1 (ix.h 0).2 c.kinds.length),(2,aK (ix.h 1).1 (ix.h 1).2 c.first.length)]) 102 b c,gT pm 23 (ix.h 0).1 (ix.h 0).2 c.kinds,gT cB 3 (ix.h 1).1 (ix.h 1).2 c.first] _ from ?_);refine aV<|wk (yI (fun y:(aq->aa->Option (((List Int)×Bool)×aq))=>ju bk xv (dB b) yr y)) rF M fun b1=>K (jw nH (D M)) ?_
 refine sI ((show bR _ _ _ _ (ju bk xv (dB b) yr Oc)from pC Sb (D M) (fun c x R h i=>by
   obtain⟨r,Y,rfl⟩:=Cu.1 h
   exact ny (Ob:=fun j=>dB b c j) (i:=i) (QA _ i c _ Y)))) M ?_
 refine ow (γ:=(fun y:(aq->aa->Option (((List Int)×Bool)×aq))=>ju bk xv (dB b) yr y)) (y:=Oc) Cs (kF qp) (D M) (v6 hI) (D M) fun os=>K (jw nH (D M)) ?_
 refine sI ((show bR _ _ _ _ (ju bk xv (dB b) yr Oa)from pC Sa (D M) (fun c x R h i=>by
   obtain⟨r,Y,rfl⟩:=Cu.1 h
   exact ny (Ob:=fun j=>dB b c j) (i:=i) (Qz _ i c _ Y)))) M ?_
 refine ow (γ:=(fun y:(aq->aa->Option (((List Int)×Bool)×aq))=>ju bk xv (dB b) yr y)) (y:=Oa) Cs (kF qp) (D M) (v6 hI) (D M) fun os1=>K (jw nH (D M)) ?_
 refine sI ((show bR _ _ _ _ (ju bk xv (dB b) yr Oh)from pC R9 (D M) (fun c x R h i=>by
   obtain⟨r,Y,rfl⟩:=Cu.1 h
   exact ny (Ob:=fun j=>dB b c j) (i:=i) (Qy _ i c _ Y)))) M ?_
 refine ow (γ:=(fun y:(aq->aa->Option (((List Int)×Bool)×aq))=>ju bk xv (dB b) yr y)) (y:=Oh) Cs (kF qp) (D M) (v6 hI) (D M) fun os2=>K (jw nH (D M)) ?_
 refine sI ((show bR _ _ _ _ (ju bk xv (dB b) yr Od)from pC R8 (D M) (fun c x R h i=>by
   obtain⟨r,Y,rfl⟩:=Cu.1 h
   exact ny (Ob:=fun j=>dB b c j) (i:=i) (Qx _ i c _ Y)))) M ?_
 refine ow (γ:=(fun y:(aq->aa->Option (((List Int)×Bool)×aq))=>ju bk xv (dB b) yr y)) (y:=Od) Cs (kF qp) (D M) (v6 hI) (D M) fun os3=>K (jw nH (D M)) ?_
 refine sI ((show bR _ _ _ _ (ju bk xv (dB b) yr Oj)from pC R7 (D M) (fun c x R h i=>by
   obtain⟨r,Y,rfl⟩:=Cu.1 h
   exact ny (Ob:=fun j=>dB b c j) (i:=i) (Qw _ i c _ Y)))) M ?_
 refine ow (γ:=(fun y:(aq->aa->Option (((List Int)×Bool)×aq))=>ju bk xv (dB b) yr y)) (y:=Oj) Cs (kF qp) (D M) (v6 hI) (D M) fun os4=>K (jw nH (D M)) ?_
 refine sI ((show bR _ _ _ _ (ju bk xv (dB b) yr Ok)from pC R6 (D M) (fun c x R h i=>by
   obtain⟨r,Y,rfl⟩:=Cu.1 h
   exact ny (Ob:=fun j=>dB b c j) (i:=i) (Qv _ i c _ Y)))) M ?_
 refine ow (γ:=(fun y:(aq->aa->Option (((List Int)×Bool)×aq))=>ju bk xv (dB b) yr y)) (y:=Ok) Cs (kF qp) (D M) (v6 hI) (D M) fun os5=>K (jw nH (D M)) ?_
 refine sI ((show bR _ _ _ _ (ju bk xv (dB b) yr Og)from pC R5 (D M) (fun c x R h i=>by
   obtain⟨r,Y,rfl⟩:=Cu.1 h
   exact ny (Ob:=fun j=>dB b c j) (i:=i) (Qu _ i c _ Y)))) M ?_
 refine ow (γ:=(fun y:(aq->aa->Option (((List Int)×Bool)×aq))=>ju bk xv (dB b) yr y)) (y:=Og) Cs (kF qp) (D M) (v6 hI) (D M) fun os6=>K (jw nH (D M)) ?_
 refine sI ((show bR _ _ _ _ (ju bk xv (dB b) yr Oe)from pC R4 (D M) (fun c x R h i=>by
   obtain⟨r,Y,rfl⟩:=Cu.1 h
   exact ny (Ob:=fun j=>dB b c j) (i:=i) (Qt _ i c _ Y)))) M ?_
 refine ow (γ:=(fun y:(aq->aa->Option (((List Int)×Bool)×aq))=>ju bk xv (dB b) yr y)) (y:=Oe) Cs (kF qp) (D M) (v6 hI) (D M) fun os7=>bu M<|aT M<|aV<|K (jw nH (D M))<|K (gN (D M))<|bI 0 C1 M<|bI 0 fY M<|K (bf (r:=rH aZ [(1,aK (ix.h 0).1 (ix.h 0).2 c.kinds.length),(2,aK (ix.h 1).1 (ix.h 1).2 c.first.length)]) (x:=c) na M M (OL (kW s7 d5)) (.tail _ (.tail _ (.head _))) (D M))<|c9 jR M<|K (cj hI)<|cb<|av<|bE (k:=33) M fun hN=>ci<|o5<|o5<|o5<|kg<|o5 ?_;refine aN (A1 (h3:=fun ls i e1 s1 ob l c1 l1 c2=>(c.Logic.Nodes.drop i=ls)/\hx s1 e1/\bl yld ls i s1 ob=some R) (Of:=fun _ i e1 s1 ob l c1 l1 c2=>[e1,pE (yI (fun y:(aq->aa->Option (((List Int)×Bool)×aq))=>ju bk xv (dB b) yr y)) rF b1 none os7 Lz,bx (rH aZ [(1,aK l c1 ob.kinds.length),(2,aK l1 c2 ob.first.length)]) 102 b ob,gT pm 23 l c1 ob.kinds,gT cB 3 l1 c2 ob.first]) (Gf:=fun _ i e1 s1 ob l c1 l1 c2=>[(0,tV yv),(1,bw (rT (tV (ax b 0))) ()),(3,tV (oD b1)),(33,gP (ak) c.Logic.Nodes),(34,jq c.Logic.Nodes),(35,cA (i:Int))]) (fun i e1 s1 ob l c1 l1 c2 h=>?_) (fun e2 tl ih i e1 s1 ob l c1 l1 c2 h=>?_) c.Logic.Nodes 0 e s c (ix.h 0).1 (ix.h 0).2 (ix.h 1).1 (ix.h 1).2 ⟨M,⟨he,h⟩⟩) (bv M)
 ·obtain⟨I,h⟩:=h
  obtain⟨he1,h⟩:=h
  exact eQ I M<|bp<|aM<|cr<|cr<|cr<|cr<|so h▸I3 M he1 (Oy [(l,c1),(l1,c2)]) M
 ·obtain⟨I,h⟩:=h
  obtain⟨he1,h⟩:=h
  refine eP I M<|aJ<|av<|aY M<|iq jR dR M (fz I)<|aC dR io M fun b2=>jm M<|aO dR ae M<|aD 5 M<|cb<|aJ ?_;refine aG<|bu M<|ca nk fX cn M<|K (Ee (γ:=(fun y:(aq->aa->Option (((List Int)×Bool)×aq))=>ju bk xv (dB b) (fun(x:(List Int)×Bool)=>tT [H vz x.1,H rB x.2]) y)) (z:=fun _ _=>none) Cs (kF qp) PI (fun _=>H1) (.tail _ (.head _)) (D M) (v6 (D M)))<|bu M<|bS M M<|bS M M<|jm M<|aT M<|aY M<|bu M<|cy h fun t q_t h=>aW M (fun T=>oI dR M M) ?_
  obtain⟨r,h1t,h0t⟩:=og q_t
  have q_rg:=fun V=>(h1t V).1
  refine aW M (fun T=>ce Rv (MS _ (q_rg T)) ⟨(dp M T),aQ⟩) ?_
  obtain⟨r1,h1t⟩:=Qj (fun V=>(h1t V).2)
  have q_r1g:=fun V=>(h1t V).1
  refine aW M (fun T=>ce R2 (OP _ (q_r1g T)) ⟨(dp M T),aQ⟩)<|K (fI (D M) (fun V=>(dp M V)) (fun V=>(h1t V).2) h0t)<|aT M ?_;refine IU (h3:=fun ok ob1 l2 c3 l3 c4=>dL yld (bl yld tl) i e2 s1 ok ob1=some R) (Of:=fun ok ob1 l2 c3 l3 c4=>[e1,pE (yI (fun y:(aq->aa->Option (((List Int)×Bool)×aq))=>ju bk xv (dB b) yr y)) rF b1 none os7 Lz,bx (rH aZ [(1,aK l2 c3 ob1.kinds.length),(2,aK l3 c4 ob1.first.length)]) 102 b ob1,gT pm 23 l2 c3 ob1.kinds,gT cB 3 l3 c4 ob1.first]) (Gf:=fun ok ob1 l2 c3 l3 c4=>[(0,tV yv),(1,bw (rT (tV (ax b 0))) ()),(3,tV (oD b1)),(4,cA (i:Int)),(5,bw ak e2),(6,ju bk xv (dB b) yr ((nX Lz e2.Op).getD (fun _ _=>none))),(8,gM ok),(33,gP (ak) c.Logic.Nodes),(34,jq c.Logic.Nodes),(35,cA (i:Int))]) (fun ok ob1 l2 c3 l3 c4 h=>?_) (fun af=>?_)
  ·skip
   refine aV<|oF cB<|cb ?_;refine IT (h3:=fun ok1 kinds ob2 l4 c5 l5 c6=>fx yld (bl yld tl) i s1 ok1 kinds ob2=some R) (Of:=fun ok1 kinds ob2 l4 c5 l5 c6=>[e1,pE (yI (fun y:(aq->aa->Option (((List Int)×Bool)×aq))=>ju bk xv (dB b) yr y)) rF b1 none os7 Lz,bx (rH aZ [(1,aK l4 c5 ob2.kinds.length),(2,aK l5 c6 ob2.first.length)]) 102 b ob2,gT pm 23 l4 c5 ob2.kinds,gT cB 3 l5 c6 ob2.first]) (Gf:=fun ok1 kinds ob2 l4 c5 l5 c6=>[(0,tV yv),(1,bw (rT (tV (ax b 0))) ()),(3,tV (oD b1)),(4,cA (i:Int)),(8,gM ok1),(10,lI kinds),(33,gP (ak) c.Logic.Nodes),(34,jq c.Logic.Nodes),(35,cA (i:Int))]) (fun ok1 kinds ob2 l4 c5 l5 c6 h=>?_) (fun K1=>?_)
   ·skip
    refine aY M<|bu M<|aW M (fL M)<|aW M (pu fS M)<|aW M (fun T=>oS (dp M T) hI)<|hM M<|aT M<|aJ<|cy h fun l6 q_l6 h=>?_
    refine jC 8 [tc (tV (ax b 0)),tc (tV (ax b 0)),tc (tV (ax b 0)),tc (tV (ax b 1)),tc (tO pm l4 c5 ob2.kinds),tc (lI kinds),tc (gP (pm) ([kinds])),([7],fun s=>tO pm ((s.getD 0 qg).h 0).1 ((s.getD 0 qg).h 0).2 l6)] [false,false,false,false,false,false,false,true] [fun _=>[e1,pE (yI (fun y:(aq->aa->Option (((List Int)×Bool)×aq))=>ju bk xv (dB b) yr y)) rF b1 none os7 Lz,bx (rH aZ [(1,aK l4 c5 ob2.kinds.length),(2,aK l5 c6 ob2.first.length)]) 102 b ob2,gT pm 23 l4 c5 ob2.kinds,gT cB 3 l5 c6 ob2.first],fun sg=>[gT pm 23 ((sg 7).h 0).1 ((sg 7).h 0).2 l6,e1,pE (yI (fun y:(aq->aa->Option (((List Int)×Bool)×aq))=>ju bk xv (dB b) yr y)) rF b1 none os7 Lz,bx (rH aZ [(1,aK l4 c5 ob2.kinds.length),(2,aK l5 c6 ob2.first.length)]) 102 b ob2,gT cB 3 l5 c6 ob2.first]] M mixed M M M M M
     ⟨⟨[⟨1,fun _=>bw (rT (tV (ax b 0))) (),none⟩],_,0,1,M,⟨(fun _=>M),aQ⟩,M,M,M,M,M,fun _ sg _ _=>ac M (jw nH (D M))⟩,
     ⟨⟨[⟨1,fun _=>bw (rT (tV (ax b 0))) (),none⟩],_,0,0,M,⟨(fun _=>M),aQ⟩,M,M,M,M,M,fun _ sg _ _=>ac M (jw nH (D M))⟩,
     ⟨⟨[⟨84,fun _=>tV (ax b 0),some 1⟩],_,0,0,M,⟨(fun _=>M),aQ⟩,M,M,M,M,M,fun _ sg _ _=>ac M (gN (D M))⟩,
     ⟨⟨[⟨85,fun _=>tV (ax b 0),some 2⟩],_,0,0,M,⟨(fun _=>M),aQ⟩,M,M,M,M,M,fun _ sg _ _=>ac M (rJ 1 lG M M M)⟩,
     ⟨⟨[⟨86,fun _=>tV (ax b 1),some 3⟩],_,0,0,M,⟨(fun _=>M),aQ⟩,M,M,M,M,M,si (fun sg=>ac M (gh qw M (.tail _ (.tail _ (.head _))) (.tail _ (.tail _ (.tail _ (.head _)))) (D M)))⟩,
     ⟨⟨[⟨10,fun _=>H vz kinds,none⟩],_,0,0,M,⟨(fun _=>M),aQ⟩,M,M,M,M,M,fun _ sg _ _=>ac M (m0 M)⟩,
     ⟨⟨[⟨88,fun _=>H vz kinds,some 5⟩],_,0,0,M,⟨(fun _=>M),aQ⟩,M,M,M,M,M,fun _ sg _ _=>ac M (aR (r:=vz) (ys:=[kinds]) (xs:=[.tmp 88]) sR eM M M M M M ⟨(D M),aQ⟩)⟩,
     ⟨⟨[⟨87,fun _=>tO vz l4 c5 ob2.kinds,some 4⟩,⟨89,fun _=>H (gy vz) ([kinds]),some 6⟩],_,M,⟨(fun _=>M),(fun _=>M),aQ⟩,M,M,M,fun sg=>cx M (EffOK.fr3 (yS eM M M M M sR M (D M) (D M) q_l6))⟩,
     aQ⟩⟩⟩⟩⟩⟩⟩⟩ (fun sg=>?_)
    refine(show RG _ _ _ _ [_,_,_,_,_] _ from ?_);refine K (gN (D M))<|bI 1 lG M<|tm (EffOK.fr3 (AL (hs' :=[(1,aK ((sg 7).h 0).1 ((sg 7).h 0).2 l6.length),(2,aK l5 c6 ob2.first.length)]) (u:=aK ((sg 7).h 0).1 ((sg 7).h 0).2 l6.length) qw M M CF M ⟨.inl ⟨M,M,M⟩,.inr ⟨M,M⟩,aQ⟩ (D M) (mD (D M)) (wy (D M)))) fun i1=>?_;refine(show RG _ _ _ _ [_,_,_,_,_] _ from ?_);refine cb<|aY M<|bu M<|bu M<|dl<|cy h fun r2 q_r2 h=>K9 hy he1 q_r2 (D M) ⟨(D M),(D M),aQ⟩ M fun e3 he2=>K (jn (D M))<|bu M<|bL M (fL M)<|bL M (yx M)<|mI M<|dq h M (fun h=>?_) (fun h=>?_)
    ·exact lz<|eX<|au<|yj<|cr<|aM<|cr<|cr<|cr<|cr<|so h▸Fm M he2 (Oy [(((sg 7).h 0).1,((sg 7).h 0).2),(l5,c6)]) M
    ·refine cg<|dQ I hN M<|cz<|cr<|cr<|cz<|cz ?_;exact bj (aN (ih (i+1) e3 r2.2 ({ob2 with kinds:=l6}:aq) ((sg 7).h 0).1 ((sg 7).h 0).2 l5 c6 ⟨dC I,⟨he2,h⟩⟩) (bv M))
   ·skip
    refine aY M<|dq h M (fun h=>?_) (fun h=>?_)
    ·refine aG<|bu M<|bA dR M<|cy h fun r3 q_r3 h=>GN (EffOK.fr4 (EffOK.fr4 (EffOK.fr4 (Da (args:=xv) (Ob:=dB b) (res:=yr) (f:=((nX Lz e2.Op).getD (fun _ _=>none))) (x:=ob1) (y:=((e2):aa)) (R:=r3) (i:=(Oy [(l2,c3),(l3,c4)])) (xs:=[.tmp 73]) _ M (D M) q_r3 ⟨(D M),aQ⟩ (fun _=>M))))) M fun i2=>?_;refine(show RG _ _ _ _ [_,_,_,_,_] ((74,tT [lI r3.1.1,gM r3.1.2])::_)from ?_);refine bu M<|bS M M<|bS M M<|jm M<|jm M<|bq<|aH<|aH<|aH<|cz<|cz ?_;exact cT (K1 r3.1.2 r3.1.1 r3.2 (i2.h 0).1 (i2.h 0).2 (i2.h 1).1 (i2.h 1).2 h) (bv M)
    ·refine cg ?_;exact cT (K1 ok ([]) ob1 l2 c3 l3 c4 h) (bv M)
  ·skip
   refine aY M<|dq h M (fun h=>?_) (fun h=>?_)
   ·refine aV<|da<|cb<|aV<|K (jw nH (D M))<|bu M<|cy h fun r4 q_r4 h=>GN (EffOK.fr4 (EffOK.fr4 (EffOK.fr4 (Iy (xs:=[.tmp 55,.tmp 56]) (ts:=[tV (ax b 0),cA (i:Int)]) (dB b ob (Oy [(l,c1),(l1,c2)])) _ M Ru (Pj b (Oy [(l,c1),(l1,c2)]) ob _ q_r4) ⟨(D M),(D M),aQ⟩ (fun _=>M))))) M fun i3=>?_;refine(show RG _ _ _ _ [_,_,_,_,_] ((57,tT [cA r4.1,gM r4.2])::_)from ?_);refine bu M<|bS M M<|bS M M<|jm M<|aT M<|cy h fun l7 q_l7 h=>?_
    refine jC 8 [tc (tV (ax b 0)),tc (tV (ax b 0)),tc (tV (ax b 0)),tc (tV (ax b 2)),tc (tO cB l1 c2 ob.first),tc (cA r4.1),tc (lI ([r4.1])),([7],fun s=>tO cB ((s.getD 0 qg).h 0).1 ((s.getD 0 qg).h 0).2 l7)] [false,false,false,false,false,false,false,true] [fun _=>[bx (rH aZ [(1,aK l c1 ob.kinds.length),(2,aK l1 c2 ob.first.length)]) 102 b ob,gT pm 23 l c1 ob.kinds,gT cB 3 l1 c2 ob.first,e1,pE (yI (fun y:(aq->aa->Option (((List Int)×Bool)×aq))=>ju bk xv (dB b) yr y)) rF b1 none os7 Lz],fun sg1=>[gT cB 3 ((sg1 7).h 0).1 ((sg1 7).h 0).2 l7,bx (rH aZ [(1,aK l c1 ob.kinds.length),(2,aK l1 c2 ob.first.length)]) 102 b ob,gT pm 23 l c1 ob.kinds,e1,pE (yI (fun y:(aq->aa->Option (((List Int)×Bool)×aq))=>ju bk xv (dB b) yr y)) rF b1 none os7 Lz]] M mixed M M M M M
     ⟨⟨[⟨1,fun _=>bw (rT (tV (ax b 0))) (),none⟩],_,0,1,M,⟨(fun _=>M),aQ⟩,M,M,M,M,M,fun _ sg1 _ _=>ac M (jw nH (D M))⟩,
     ⟨⟨[⟨1,fun _=>bw (rT (tV (ax b 0))) (),none⟩],_,0,0,M,⟨(fun _=>M),aQ⟩,M,M,M,M,M,fun _ sg1 _ _=>ac M (jw nH (D M))⟩,
     ⟨⟨[⟨61,fun _=>tV (ax b 0),some 1⟩],_,0,0,M,⟨(fun _=>M),aQ⟩,M,M,M,M,M,fun _ sg1 _ _=>ac M (gN (D M))⟩,
     ⟨⟨[⟨62,fun _=>tV (ax b 0),some 2⟩],_,0,0,M,⟨(fun _=>M),aQ⟩,M,M,M,M,M,fun _ sg1 _ _=>ac M (rJ 2 ro M M M)⟩,
     ⟨⟨[⟨63,fun _=>tV (ax b 2),some 3⟩],_,0,0,M,⟨(fun _=>M),aQ⟩,M,M,M,M,M,si (fun sg1=>ac M (gh eM M (.head _) (.tail _ (.tail _ (.head _))) (D M)))⟩,
     ⟨⟨[⟨9,fun _=>H cB r4.1,none⟩],_,0,0,M,⟨(fun _=>M),aQ⟩,M,M,M,M,M,fun _ sg1 _ _=>ac M (m0 M)⟩,
     ⟨⟨[⟨65,fun _=>H cB r4.1,some 5⟩],_,0,0,M,⟨(fun _=>M),aQ⟩,M,M,M,M,M,fun _ sg1 _ _=>ac M (aR (r:=cB) (ys:=[r4.1]) (xs:=[.tmp 65]) fS cn M M M M M ⟨(D M),aQ⟩)⟩,
     ⟨⟨[⟨64,fun _=>tO cB l1 c2 ob.first,some 4⟩,⟨66,fun _=>H vz ([r4.1]),some 6⟩],_,M,⟨(fun _=>M),(fun _=>M),aQ⟩,M,M,M,fun sg1=>cx M (EffOK.fr2 (yS cn M M M M fS M (D M) (D M) q_l7))⟩,
     aQ⟩⟩⟩⟩⟩⟩⟩⟩ (fun sg1=>?_)
    refine(show RG _ _ _ _ [_,_,_,_,_] _ from ?_);refine K (gN (D M))<|bI 2 ro M<|tm (EffOK.fr1 (AL (hs' :=[(1,aK l c1 ob.kinds.length),(2,aK ((sg1 7).h 0).1 ((sg1 7).h 0).2 l7.length)]) (u:=aK ((sg1 7).h 0).1 ((sg1 7).h 0).2 l7.length) eM M M CE M ⟨.inr ⟨M,M⟩,.inl ⟨M,M,M⟩,aQ⟩ (D M) (mD (D M)) (wy (D M)))) fun i4=>?_;refine(show RG _ _ _ _ [_,_,_,_,_] _ from ?_);refine bq<|bp<|aH<|aH<|cz<|cz ?_;exact cT (af r4.2 ({ob with first:=l7}:aq) l c1 ((sg1 7).h 0).1 ((sg1 7).h 0).2 h) (bv M)
   ·refine cg ?_;exact cT (af t ob l c1 l1 c2 h) (bv M)

end Go.Proofs.YtbmmihfagmchaaaGreat

