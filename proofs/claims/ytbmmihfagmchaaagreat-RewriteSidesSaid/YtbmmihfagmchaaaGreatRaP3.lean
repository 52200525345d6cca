/- db of this claim: P3. -/
import Derived.Test.YtbmmihfagmchaaaGreatRaT
import Derived.Test.YtbmmihfagmchaaaGreatRaP2
set_option linter.all false
namespace Go.Proofs.YtbmmihfagmchaaaGreat
open Go
set_option maxRecDepth 100000

def Ez s f{R}(h:fI s f=some R):cj bf 134 [eE (gT) s,(jW bf Cb qB (fun(x:ne)=>f x))] (ec R):=by
 exact de Tryz.func134 J<|T<|cu<|bO<|aW J<|bg J<|da h HH (Ep _ _) (bQ J) fun r h=>K (dB (D J) hI)<|bt J<|so h▸bl J J

def G9(b:Nat)(ix:OI) c n{R}(h:gO c n=some R):df bf 98 [tV (aq b 0),X ap n] (cS b c ix) (fun _:OI=>tT [jT R.1,ec R.2]) (fun _=>(cS b c ix)):=by
 refine df.of Tryz.func98 J J J fun w0 S0=>?_;refine(show CG _ _ _ [bx (rH aZ [(1,aM (ix.h 0).1 (ix.h 0).2 c.kinds.length),(2,aM (ix.h 1).1 (ix.h 1).2 c.first.length)]) 102 b c,tip lK 23 (ix.h 0).1 (ix.h 0).2 c.kinds,tip ce 3 (ix.h 1).1 (ix.h 1).2 c.first] _ from ?_);refine T<|cA J<|gb ce<|cu<|bO<|aF<|cq h fun e q_e h=>?_
 refine gw 9 [tc (tV (aq b 0)),tc (tV (aq b 0)),tc (tV (aq b 1)),tc (tO lK (ix.h 0).1 (ix.h 0).2 c.kinds),tc (bp ce n.A),tc (bX n.A),tc (bp lK e),tc (jT e),([8],fun s=>tV (aq ((s.getD 0 nh).h 0).2 0))] [false,false,false,false,false,false,false,false,true] [fun _=>[bx (rH aZ [(1,aM (ix.h 0).1 (ix.h 0).2 c.kinds.length),(2,aM (ix.h 1).1 (ix.h 1).2 c.first.length)]) 102 b c,tip lK 23 (ix.h 0).1 (ix.h 0).2 c.kinds,tip ce 3 (ix.h 1).1 (ix.h 1).2 c.first],fun sg=>[bx lK 23 ((sg 8).h 0).2 ([]),bx (rH aZ [(1,aM (ix.h 0).1 (ix.h 0).2 c.kinds.length),(2,aM (ix.h 1).1 (ix.h 1).2 c.first.length)]) 102 b c,tip lK 23 (ix.h 0).1 (ix.h 0).2 c.kinds,tip ce 3 (ix.h 1).1 (ix.h 1).2 c.first]] J mixed J J J J J
  ⟨⟨[⟨0,fun _=>tV (aq b 0),none⟩],_,0,1,J,⟨(fun _=>J),aX⟩,J,J,J,J,J,fun _ sg _ _=>ac J (jJ J)⟩,
  ⟨⟨[⟨9,fun _=>tV (aq b 0),some 0⟩],_,0,1,J,⟨(fun _=>J),aX⟩,J,J,J,J,J,fun _ sg _ _=>ac J (eK (D J))⟩,
  ⟨⟨[⟨10,fun _=>tV (aq b 0),some 1⟩],_,0,1,J,⟨(fun _=>J),aX⟩,J,J,J,J,J,fun _ sg _ _=>ac J (pr 1 iX J J J)⟩,
  ⟨⟨[⟨11,fun _=>tV (aq b 1),some 2⟩],_,0,1,J,⟨(fun _=>J),aX⟩,J,J,J,J,J,vn (fun sg=>ac J (eg mN J (.head _) (.tail _ (.head _)) (D J))) (qD (fun sg=>ac J (eg mN J (.tail _ (.head _)) (.tail _ (.tail _ (.head _))) (D J))))⟩,
  ⟨⟨[⟨3,fun _=>bp ap n,none⟩],_,0,1,J,⟨(fun _=>J),aX⟩,J,J,J,J,J,fun _ sg _ _=>ac J (jK g9 dI J J)⟩,
  ⟨⟨[⟨13,fun _=>bp ce n.A,some 4⟩],_,0,1,J,⟨(fun _=>J),aX⟩,J,J,J,J,J,fun _ sg _ _=>ac J (lc bR J J)⟩,
  ⟨⟨[⟨12,fun _=>tO r8 (ix.h 0).1 (ix.h 0).2 c.kinds,some 3⟩,⟨14,fun _=>X ce n.A,some 5⟩],_,0,1,J,⟨(fun _=>J),(fun _=>J),aX⟩,J,J,J,J,J,fun _ sg _ _=>ac J (bj oy dJ J (i7 (D J)) (D J) q_e)⟩,
  ⟨⟨[⟨15,fun _=>bp r8 e,some 6⟩],_,0,1,J,⟨(fun _=>J),aX⟩,J,J,J,J,J,fun _ sg _ _=>ac J (lc dJ J J)⟩,
  ⟨⟨[],_,J,aX,J,J,J,fun sg=>ck J (iF (r:=r8) (x:=[]) dJ (fun _=>⟨none,0,J,iZ _,ky _,.inl J⟩))⟩,
  aX⟩⟩⟩⟩⟩⟩⟩⟩⟩ (fun sg=>?_)
 refine(show RG _ _ _ _ [_,_,_,_] _ from ?_);refine aR dJ aa J<|aB 6 J<|bO<|T<|K ((show bJ _ _ _ _ ((jW bf Cb qB (fun(x:ne)=>(iL e) x)))from nB (cts:=[bp lK e]) (caps:=[.tmp 6]) HT ⟨(D J),aX⟩ (fun x y h=>EA _ _ h)))<|aP J<|T<|bw p8 nJ Be J<|cM y9 J<|K (iK (D J) hI)<|bg J<|cq h fun t q_t h=>aI J (dv p8 nJ J J)<|aI J (du Be J J)<|aI J (cB J) ?_
 obtain⟨r,h1t,h0t⟩:=og q_t
 have q_rg:=fun V=>(h1t V).1
 refine aI J (fun Z=>cg HS (Ez _ _ (q_rg Z)) ⟨(ca J Z),(ca J Z),aX⟩)<|aI J (pt J)<|K (ef (D J) (fun V=>(ca J V)) (fun V=>(h1t V).2) h0t)<|bg J<|aI J (dv tG pJ J J)<|aI J (du bR J J)<|aI J (fun Z=>dB (ca J Z) hI)<|dq J<|bg J<|aI J (dv tG pJ J J)<|aI J (du bR J J)<|aI J (fun Z=>iK (ca J Z) hI)<|dq J<|aP J<|aF ?_
 refine eC (ts:=[_,_,_,_,_,_,_,_,_,_,_,_,_,_,_,_,_,_,_]) mixed J J
  ⟨lV 6 J J (lc dJ J J),
  ⟨gK J J,
  ⟨dg 40 1 J J (jJ J),
  ⟨nk 0 41 2 J J J (bN J J J J (fun Z=>jJ J)),
  ⟨ek 42 3 41 2 J J J (bN J J J J (fun Z=>eK (ca J Z))),
  ⟨ek 43 4 41 2 J J J (bN J J J J (fun Z=>j6 (n:=1) iX J (ca J Z) J)),
  ⟨ek 44 5 41 2 J J J (bN J J J J (fun Z=>eg mN J (.head _) (.tail _ (.head _)) (ca J Z))),
  ⟨ek 45 6 41 2 J J J (bN J J J J (fun Z=>fc oy (i7 (ca J Z)))),
  ⟨nk 0 41 2 J J J (bN J J J J (fun Z=>jJ J)),
  ⟨ek 47 8 41 2 J J J (bN J J J J (fun Z=>eK (ca J Z))),
  ⟨ek 48 9 41 2 J J J (bN J J J J (fun Z=>j6 (n:=0) xa J (ca J Z) J)),
  ⟨ek 49 10 41 2 J J J (bN J J J J (fun Z=>j6 (n:=0) fv J (ca J Z) J)),
  ⟨ek 50 11 41 2 J J J (bN J J J J (fun Z=>be (r:=rH aZ [(1,aM (ix.h 0).1 (ix.h 0).2 c.kinds.length),(2,aM (ix.h 1).1 (ix.h 1).2 c.first.length)]) (x:=c) lY J J (FT (iv oP dT)) (.head _) (ca J Z))),
  ⟨ek 51 12 41 2 J J J (bN J J J J (fun Z=>fc kZ (ca J Z))),
  ⟨ek 52 13 41 2 J J J (bN J J J J (fun Z=>cY (ca J Z) hI)),
  ⟨sN 46 7 53 14 41 2 J J J J (bN J J J J (fun Z=>fF (ca J Z) (ca J Z))),
  ⟨eI 41 2 54 15 J J J (Ft J J),
  ⟨dg 39 0 J J (re J),
  ⟨dg 55 16 J J (re J),
  aX⟩⟩⟩⟩⟩⟩⟩⟩⟩⟩⟩⟩⟩⟩⟩⟩⟩⟩⟩ ?_
 exact au<|hJ<|aA<|aA<|aA<|so h▸fZ (ts:=[jT e,ec (((t&&(decide (lM<=n.Limit)))&&(decide (n.Limit<=(2147483647:Int))))&&((c.kinds.length:Int)==(IntKind.i64.wrap ((c.Logic.Nodes.length:Int)-(1:Int)))))]) (rvs:=[.tmp 4,.tmp 5]) J J ⟨aS J,aS J,aX⟩ nh J J

def FV n{R}(h:uE n=some R):cj bf 99 [X ap n] (ec R):=by
 refine de Tryz.func99 J<|T<|cA J<|cu<|bO<|T<|bw w9 qR bR J<|cb J<|bg J<|aI J (dv pM lu J J)<|aI J (du dJ J J)<|aI J (i5 ed J)<|aI J (i6 J)<|dq J<|bg J<|aI J (dv w8 qQ J J)<|aI J (du Ci J J)<|aI J (pt J)<|dq J<|bg J ?_;refine aI J (dv jS eq J J)<|aI J (fun Z=>fE bZ J bL J (ca J Z))<|aI J (du ee J J)<|aI J (i5 hM J)<|aI J (i6 J)<|dq J<|bg J<|aI J (dv oT kl J J)<|aI J (du dJ J J)<|aI J (i5 ed J)<|aI J (i6 J)<|dq J<|bg J<|aI J (dv n7 m7 J J)<|aI J (du vo J J)<|aI J (i5 tJ J)<|aI J (i6 J)<|dq J<|bg J<|aI J (dv kO gF J J)<|aI J (du dC J J)<|aI J (i5 gx J)<|aI J (i6 J)<|dq J ?_;exact bg J<|aI J (dv p8 nJ J J)<|aI J (du Be J J)<|aI J (i5 y9 J)<|aI J (i6 J)<|dq J<|bg J<|aI J (dv tG pJ J J)<|aI J (du bR J J)<|aI J (i6 J)<|dq J<|bt J<|so h▸bl J J

def EN n{R}(h:uF n=some R):cj bf 100 [X ap n] (X ap R):=by
 refine de Tryz.func100 J<|T<|nO (D J) J fun b=>av dK fP J fun b1=>bO<|ba<|bD 0 kP J<|K (be bR J J er (.tail _ (.head _)) (D J))<|bO<|am<|T<|cb J<|aP J<|jH h J (fun h=>?_) (fun h=>?_)
 ·exact aC<|bD 3 w9 J<|aU<|cy bR J um J (D J) hI<|bD 4 pM J<|cy dJ J oD J (D J) vB<|bc<|aO<|au<|T<|K (be (x:=(an.mk n.Op n.A n.B (0:Int) ([]) n.Left n.Cond n.Keys n.Aggs n.Items n.Order n.Limit)) dK J J bC (.head _) (D J))<|aU<|aR dK aa J<|aB 2 J<|cU<|aH<|so h▸eD J dK J J J
 ·refine T<|cb J<|aP J<|jH h J (fun h=>?_) (fun h=>?_)
  ·exact aC<|K (bz aL pg bU J)<|bD 5 w8 J<|aU<|cy Ci J ul J (D J) hB<|bD 6 jS J<|aR aL je J<|bc<|aO<|au<|T<|K (be (x:=(an.mk n.Op n.A n.B n.Table n.Kinds false fQ n.Keys n.Aggs n.Items n.Order n.Limit)) dK J J bC (.head _) (D J))<|aU<|aR dK aa J<|aB 2 J<|cU<|aH<|so h▸eD J dK J J J
  ·refine T<|cb J<|aP J<|jH h J (fun h=>?_) (fun h=>?_)
   ·exact aC<|K (bz aL pg bU J)<|bD 6 jS J<|aU<|aR aL je J<|bc<|aO<|au<|T<|K (be (x:=(an.mk n.Op n.A n.B n.Table n.Kinds n.Left fQ n.Keys n.Aggs n.Items n.Order n.Limit)) dK J J bC (.head _) (D J))<|aU<|aR dK aa J<|aB 2 J<|cU<|aH<|so h▸eD J dK J J J
   ·refine T<|cb J<|aP J<|jH h J (fun h=>?_) (fun h=>?_)
    ·exact aC<|bD 7 oT J<|aU<|cy dJ J uk J (D J) vB<|bD 8 n7 J<|cy vo J zt J (D J) vB<|bc<|aO<|au<|T<|K (be (x:=(an.mk n.Op n.A n.B n.Table n.Kinds n.Left n.Cond ([]) ([]) n.Items n.Order n.Limit)) dK J J bC (.head _) (D J))<|aU<|aR dK aa J<|aB 2 J<|cU<|aH<|so h▸eD J dK J J J
    ·refine T<|cb J<|aP J<|jH h J (fun h=>?_) (fun h=>?_)
     ·exact aC<|bD 9 kO J<|aU<|cy dC J uj J (D J) vB<|bc<|aO<|au<|T<|K (be (x:=(an.mk n.Op n.A n.B n.Table n.Kinds n.Left n.Cond n.Keys n.Aggs ([]) n.Order n.Limit)) dK J J bC (.head _) (D J))<|aU<|aR dK aa J<|aB 2 J<|cU<|aH<|so h▸eD J dK J J J
     ·refine T<|cb J<|aP J<|jH h J (fun h=>?_) (fun h=>?_)
      ·exact aC<|bD 10 p8 J<|aU<|cy Be J sR J (D J) vB<|bD 11 tG J<|cy bR J x8 J (D J) hI<|bc<|aO<|au<|T<|K (be (x:=(an.mk n.Op n.A n.B n.Table n.Kinds n.Left n.Cond n.Keys n.Aggs n.Items ([]) (0:Int))) dK J J bC (.head _) (D J))<|aU<|aR dK aa J<|aB 2 J<|cU<|aH<|so h▸eD J dK J J J
      ·exact bH<|aO<|au<|T<|K (be dK J J bC (.tail _ (.head _)) (D J))<|aR dK aa J<|aB 2 J<|cU<|aH<|so h▸eD J dK J J J

def Ey op{R}(h:sY op=some R):cj bf 135 [bX op] (bX R):=by
 refine de Tryz.func135 J<|T<|cx<|bO<|ba<|bg J<|bO<|am<|T<|cb J<|aP J<|jH h J (fun h=>?_) (fun h=>?_)
 ·exact T<|dh<|cZ<|so h▸bl J J
 ·refine eT (hg:=fun x=>m1 x=some R) (Of:=fun x=>[]) (Gf:=fun x=>[(6,ec x)]) (fun x h=>?_) (fun ae=>?_)
  ·skip
   refine jH h J (fun h=>?_) (fun h=>?_)
   ·exact T<|dh<|cZ<|so h▸bl J J
   ·exact bH<|aO<|au<|T<|dh<|so h▸bl J J
  ·skip
   refine T<|cb J<|aP J<|jH h J (fun h=>?_) (fun h=>?_)
   ·refine bH ?_;exact bY (ae (op==(2:Int)) h) (bk J)
   ·refine aC<|cb J<|f9 J<|bc ?_;exact bY (ae (op==(7:Int)) h) (bk J)

def Gq(b:Nat)(ix:OI) c i{R}(h:mw c i=some R):df bf 101 [tV (aq b 0),bX i] (cS b c ix) (fun _:OI=>tT [bX R.1,ec R.2]) (fun _=>(cS b c ix)):=by
 refine df.of Tryz.func101 J J J fun w0 S0=>?_;refine(show CG _ _ _ [bx (rH aZ [(1,aM (ix.h 0).1 (ix.h 0).2 c.kinds.length),(2,aM (ix.h 1).1 (ix.h 1).2 c.first.length)]) 102 b c,tip lK 23 (ix.h 0).1 (ix.h 0).2 c.kinds,tip ce 3 (ix.h 1).1 (ix.h 1).2 c.first] _ from ?_);refine T<|cx<|cu<|bO<|aW J<|K (eK (D J))<|bD 0 xa J<|bD 0 fv J<|K (be (r:=rH aZ [(1,aM (ix.h 0).1 (ix.h 0).2 c.kinds.length),(2,aM (ix.h 1).1 (ix.h 1).2 c.first.length)]) (x:=c) lY J J (FT (iv oP dT)) (.head _) (D J))<|bg J<|cq h fun e q_e h=>ej kZ dK J q_e<|av dK fP J fun b1=>aR dK aa J<|aB 6 J<|bO<|aF<|aF ?_;refine aC<|bw kP er bR J<|da h HR (Ey _) (bQ J) fun r h=>bO<|am<|T<|cb J<|aP J<|jH h J (fun h=>?_) (fun h=>?_)
 ·refine aF ?_
  refine eC (ts:=[_,_,_,_,_,_,_,_,_,_,_]) mixed J J
   ⟨gK J J,
   ⟨lV 6 J J (jK g9 dI J J),
   ⟨ga 1 bR J J,
   ⟨dg 22 2 J J (GJ J),
   ⟨dg 23 3 J J (jJ J),
   ⟨nk 6 24 4 J J J (bN J J J J (fun Z=>jK mo io J J)),
   ⟨ek 25 5 24 4 J J J (bN J J J J (fun Z=>d6 bR J J (ca J Z))),
   ⟨ek 26 6 24 4 J J J (bN J J J J (fun Z=>fF (ca J Z) hI)),
   ⟨eI 24 4 27 7 J J J (Ft J J),
   ⟨dg 20 0 J J (re J),
   ⟨dg 28 8 J J (re J),
   aX⟩⟩⟩⟩⟩⟩⟩⟩⟩⟩⟩ ?_
  exact au<|hJ<|cZ<|aA<|aA<|aA<|so h▸fZ (ts:=[bX i,ec ((e.A==lM)&&(e.B==lM))]) (rvs:=[.tmp 4,.tmp 5]) J J ⟨aS J,aS J,aX⟩ nh J J
 ·refine T<|cb J<|aP J<|jH h J (fun h=>?_) (fun h=>?_)
  ·refine ba<|bw g9 dI bR J<|bg J<|K (cY (D J) hI)<|K (ia (D J) (D J))<|bg J<|aV J (dv mo io J J)<|aV J (du bR J J)<|aV J (pu J)<|fg J<|bg J<|aV J (cB J)<|aV J (i6 J)<|fg J<|cw h J (fun h=>?_) (fun h=>?_)
   ·exact T<|cx<|cu<|cU<|ak<|cZ<|aA<|aA<|aA<|so h▸fZ (ts:=[bX 0,ec false]) (rvs:=[.tmp 4,.tmp 5]) J J ⟨aS J,aS J,aX⟩ nh J J
   ·refine gg<|aF<|cq h fun e1 q_e1 h=>?_
    refine eC (ts:=[_,_,_,_,_,_,_,_,_,_]) mixed J J
     ⟨gK J J,
     ⟨dg 45 0 J J (eK (D J)),
     ⟨dg 46 1 J J (pr 2 nK J J J),
     ⟨dg 47 2 J J (eg dJ J (.head _) (.tail _ (.tail _ (.head _))) (D J)),
     ⟨lV 6 J J (jK g9 dI J J),
     ⟨ga 4 bR J J,
     ⟨eI 48 3 50 5 J J J (bj ed bR J (i7 (D J)) (D J) q_e1),
     ⟨ga 6 bR J J,
     ⟨dg 52 7 J J (re J),
     ⟨Cd J (Ig),
     aX⟩⟩⟩⟩⟩⟩⟩⟩⟩⟩ ?_
    exact au<|hJ<|cZ<|aA<|aA<|aA<|so h▸fZ (ts:=[bX e1,ec true]) (rvs:=[.tmp 4,.tmp 5]) J J ⟨aS J,aS J,aX⟩ nh J J
  ·refine bH<|aO<|au<|aF<|aF<|cq h fun t q_t h=>?_
   obtain⟨e2,h1t,h0t⟩:=og q_t
   have q_e2g:=fun V=>(h1t V).1
   refine eC (ts:=[_,_,_,_,_,_,_,_,_,_,_,_,_,_,_,_,_,_,_,_,_,_,_,_,_,_,_,_]) mixed J J
    ⟨lV 6 J J (jK mo io J J),
    ⟨ga 0 bR J J,
    ⟨gK J J,
    ⟨dg 55 2 J J (cY (D J) hI),
    ⟨eI 54 1 56 3 J J J (ia (D J) (D J)),
    ⟨dg 57 4 J J (jJ J),
    ⟨nk 1 58 5 J J J (jq J J J J (fun Z=>jJ J)),
    ⟨ek 59 6 58 5 J J J (jq J J J J (fun Z=>fF (ca J Z) hI)),
    ⟨eI 58 5 60 7 J J J (Ip J J),
    ⟨dg 61 8 J J (jJ J),
    ⟨nk 6 62 9 J J J (jq J J J J (fun Z=>jK g9 dI J J)),
    ⟨ek 63 10 62 9 J J J (jq J J J J (fun Z=>d6 bR J J (ca J Z))),
    ⟨nk 0 62 9 J J J (jq J J J J (fun Z=>jJ J)),
    ⟨ek 65 12 62 9 J J J (jq J J J J (fun Z=>eK (ca J Z))),
    ⟨ek 66 13 62 9 J J J (jq J J J J (fun Z=>j6 (n:=2) nK J (ca J Z) J)),
    ⟨ek 67 14 62 9 J J J (jq J J J J (fun Z=>eg dJ J (.head _) (.tail _ (.tail _ (.head _))) (ca J Z))),
    ⟨nk 6 62 9 J J J (jq J J J J (fun Z=>jK mo io J J)),
    ⟨ek 69 16 62 9 J J J (jq J J J J (fun Z=>d6 bR J J (ca J Z))),
    ⟨sN 68 15 70 17 62 9 J J J J (jq J J J J (fun Z=>bj ed bR J (i7 (ca J Z)) (ca J Z) (q_e2g Z))),
    ⟨ek 71 18 62 9 J J J (jq J J J J (fun Z=>d6 bR J J (ca J Z))),
    ⟨ek 72 19 62 9 J J J (jq J J J J (fun Z=>cY (ca J Z) hI)),
    ⟨sN 64 11 73 20 62 9 J J J J (jq J J J J (fun Z=>ia (ca J Z) (ca J Z))),
    ⟨eI 62 9 74 21 J J J (jk (D J) (fun V=>(ca J (sw V))) (fun V=>(h1t V).2) h0t),
    ⟨dg 75 22 J J (jJ J),
    ⟨nk 6 76 23 J J J (jq J J J J (fun Z=>jK g9 dI J J)),
    ⟨ek 77 24 76 23 J J J (jq J J J J (fun Z=>d6 bR J J (ca J Z))),
    ⟨ek 78 25 76 23 J J J (jq J J J J (fun Z=>eO (ca J Z) hI)),
    ⟨eI 76 23 79 26 J J J (Ip J J),
    aX⟩⟩⟩⟩⟩⟩⟩⟩⟩⟩⟩⟩⟩⟩⟩⟩⟩⟩⟩⟩⟩⟩⟩⟩⟩⟩⟩⟩ ?_
   refine au<|jH h J (fun h=>?_) (fun h=>?_)
   ·exact T<|cx<|cu<|cU<|ak<|aA<|aA<|aA<|so h▸fZ (ts:=[bX 0,ec false]) (rvs:=[.tmp 4,.tmp 5]) J J ⟨aS J,aS J,aX⟩ nh J J
   ·refine gg<|aF<|cq h fun e3 q_e3 h=>?_
    refine eC (ts:=[_,_,_,_,_,_,_,_,_,_]) mixed J J
     ⟨gK J J,
     ⟨dg 81 0 J J (eK (D J)),
     ⟨dg 82 1 J J (pr 2 nK J J J),
     ⟨dg 83 2 J J (eg dJ J (.head _) (.tail _ (.tail _ (.head _))) (D J)),
     ⟨lV 6 J J (jK g9 dI J J),
     ⟨ga 4 bR J J,
     ⟨eI 84 3 86 5 J J J (bj ed bR J (i7 (D J)) (D J) q_e3),
     ⟨ga 6 bR J J,
     ⟨dg 88 7 J J (re J),
     ⟨Cd J (Ig),
     aX⟩⟩⟩⟩⟩⟩⟩⟩⟩⟩ ?_
    exact au<|hJ<|aA<|aA<|aA<|so h▸fZ (ts:=[bX e3,ec true]) (rvs:=[.tmp 4,.tmp 5]) J J ⟨aS J,aS J,aX⟩ nh J J

def Ed(b:Nat)(ix:OI)(c:aw):rU bf 90 (fun(x:Int×Bool)=>[bX x.1,ec x.2]) (fun _=>jQ c) (cS b) (cS b c ix) [bp (rT (tV (aq b 0))) ()]:=by
 refine rU.of Tryz.func90 J J J fun Sg yld s R h hx yv hy e he w0 S0 B hB=>?_
 replace h:jQ c yld s=some R:=h
 refine(show CG _ _ _ [e,bx (rH aZ [(1,aM (ix.h 0).1 (ix.h 0).2 c.kinds.length),(2,aM (ix.h 1).1 (ix.h 1).2 c.first.length)]) 102 b c,tip lK 23 (ix.h 0).1 (ix.h 0).2 c.kinds,tip ce 3 (ix.h 1).1 (ix.h 1).2 c.first] _ from ?_);refine T<|qX (sU (fun y:(aw->an->Option (((List Int)×Bool)×aw))=>gm bf r9 (cS b) sM y)) nR J fun b1=>K (gq kD (D J)) ?_
 refine oq ((show bJ _ _ _ _ (gm bf r9 (cS b) sM Fz)from lQ IM (D J) (fun c x R h i=>by
   obtain⟨r,Y,rfl⟩:=wA.1 h
   exact ks (Ob:=fun j=>cS b c j) (i:=i) (Hg _ i c _ Y)))) J ?_
 refine kW (γ:=(fun y:(aw->an->Option (((List Int)×Bool)×aw))=>gm bf r9 (cS b) sM y)) (y:=Fz) wx (im mL) (D J) (qN hI) (D J) fun os=>K (gq kD (D J)) ?_
 refine oq ((show bJ _ _ _ _ (gm bf r9 (cS b) sM Fy)from lQ IL (D J) (fun c x R h i=>by
   obtain⟨r,Y,rfl⟩:=wA.1 h
   exact ks (Ob:=fun j=>cS b c j) (i:=i) (Hf _ i c _ Y)))) J ?_
 refine kW (γ:=(fun y:(aw->an->Option (((List Int)×Bool)×aw))=>gm bf r9 (cS b) sM y)) (y:=Fy) wx (im mL) (D J) (qN hI) (D J) fun os1=>K (gq kD (D J)) ?_
 refine oq ((show bJ _ _ _ _ (gm bf r9 (cS b) sM FD)from lQ IK (D J) (fun c x R h i=>by
   obtain⟨r,Y,rfl⟩:=wA.1 h
   exact ks (Ob:=fun j=>cS b c j) (i:=i) (He _ i c _ Y)))) J ?_
 refine kW (γ:=(fun y:(aw->an->Option (((List Int)×Bool)×aw))=>gm bf r9 (cS b) sM y)) (y:=FD) wx (im mL) (D J) (qN hI) (D J) fun os2=>K (gq kD (D J)) ?_
 refine oq ((show bJ _ _ _ _ (gm bf r9 (cS b) sM FA)from lQ IJ (D J) (fun c x R h i=>by
   obtain⟨r,Y,rfl⟩:=wA.1 h
   exact ks (Ob:=fun j=>cS b c j) (i:=i) (Hd _ i c _ Y)))) J ?_
 refine kW (γ:=(fun y:(aw->an->Option (((List Int)×Bool)×aw))=>gm bf r9 (cS b) sM y)) (y:=FA) wx (im mL) (D J) (qN hI) (D J) fun os3=>K (gq kD (D J)) ?_
 refine oq ((show bJ _ _ _ _ (gm bf r9 (cS b) sM FE)from lQ II (D J) (fun c x R h i=>by
   obtain⟨r,Y,rfl⟩:=wA.1 h
   exact ks (Ob:=fun j=>cS b c j) (i:=i) (Hc _ i c _ Y)))) J ?_
 refine kW (γ:=(fun y:(aw->an->Option (((List Int)×Bool)×aw))=>gm bf r9 (cS b) sM y)) (y:=FE) wx (im mL) (D J) (qN hI) (D J) fun os4=>K (gq kD (D J)) ?_
 refine oq ((show bJ _ _ _ _ (gm bf r9 (cS b) sM FF)from lQ IH (D J) (fun c x R h i=>by
   obtain⟨r,Y,rfl⟩:=wA.1 h
   exact ks (Ob:=fun j=>cS b c j) (i:=i) (Hb _ i c _ Y)))) J ?_
 refine kW (γ:=(fun y:(aw->an->Option (((List Int)×Bool)×aw))=>gm bf r9 (cS b) sM y)) (y:=FF) wx (im mL) (D J) (qN hI) (D J) fun os5=>K (gq kD (D J)) ?_
 refine oq ((show bJ _ _ _ _ (gm bf r9 (cS b) sM FC)from lQ IG (D J) (fun c x R h i=>by
   obtain⟨r,Y,rfl⟩:=wA.1 h
   exact ks (Ob:=fun j=>cS b c j) (i:=i) (Ha _ i c _ Y)))) J ?_
 refine kW (γ:=(fun y:(aw->an->Option (((List Int)×Bool)×aw))=>gm bf r9 (cS b) sM y)) (y:=FC) wx (im mL) (D J) (qN hI) (D J) fun os6=>K (gq kD (D J)) ?_
 refine oq ((show bJ _ _ _ _ (gm bf r9 (cS b) sM FB)from lQ IF (D J) (fun c x R h i=>by
   obtain⟨r,Y,rfl⟩:=wA.1 h
   exact ks (Ob:=fun j=>cS b c j) (i:=i) (G9 _ i c _ Y)))) J ?_
 refine kW (γ:=(fun y:(aw->an->Option (((List Int)×Bool)×aw))=>gm bf r9 (cS b) sM y)) (y:=FB) wx (im mL) (D J) (qN hI) (D J) fun os7=>bg J<|aP J<|T<|K (gq kD (D J))<|K (eK (D J))<|bD 0 xa J<|bD 0 fv J<|K (be (r:=rH aZ [(1,aM (ix.h 0).1 (ix.h 0).2 c.kinds.length),(2,aM (ix.h 1).1 (ix.h 1).2 c.first.length)]) (x:=c) lY J J (FT (iv oP dT)) (.tail _ (.tail _ (.head _))) (D J))<|cM kZ J<|K (bS hI)<|bO<|am<|br (k:=33) J fun hN=>bP<|lC<|lC<|lC<|fO<|lC ?_;refine aN (rQ (hg:=fun ls i e1 s1 ob l c1 l1 c2=>(c.Logic.Nodes.drop i=ls)/\hx s1 e1/\dQ yld ls i s1 ob=some R) (Of:=fun _ i e1 s1 ob l c1 l1 c2=>[e1,lR (sU (fun y:(aw->an->Option (((List Int)×Bool)×aw))=>gm bf r9 (cS b) sM y)) nR b1 none os7 DU,bx (rH aZ [(1,aM l c1 ob.kinds.length),(2,aM l1 c2 ob.first.length)]) 102 b ob,tip lK 23 l c1 ob.kinds,tip ce 3 l1 c2 ob.first]) (Gf:=fun _ i e1 s1 ob l c1 l1 c2=>[(0,tV yv),(1,bp (rT (tV (aq b 0))) ()),(3,tV (k4 b1)),(33,eE (ap) c.Logic.Nodes),(34,f6 c.Logic.Nodes),(35,bX (i:Int))]) (fun i e1 s1 ob l c1 l1 c2 h=>?_) (fun e2 tl ih i e1 s1 ob l c1 l1 c2 h=>?_) c.Logic.Nodes 0 e s c (ix.h 0).1 (ix.h 0).2 (ix.h 1).1 (ix.h 1).2 ⟨J,⟨he,h⟩⟩) (bk J)
 ·obtain⟨I,h⟩:=h
  obtain⟨he1,h⟩:=h
  exact dt I J<|bm<|aH<|bq<|bq<|bq<|bq<|so h▸B2 J he1 (FO [(l,c1),(l1,c2)]) J
 ·obtain⟨I,h⟩:=h
  obtain⟨he1,h⟩:=h
  refine dr I J<|aF<|am<|aW J<|ej kZ dK J (dm I)<|av dK fP J fun b2=>f9 J<|aR dK aa J<|aB 5 J<|bO<|aF ?_;refine aC<|bg J<|bw kP er bR J<|K (yo (γ:=(fun y:(aw->an->Option (((List Int)×Bool)×aw))=>gm bf r9 (cS b) (fun(x:(List Int)×Bool)=>tT [X r8 x.1,X rB x.2]) y)) (z:=fun _ _=>none) wx (im mL) GO (fun _=>Bf) (.tail _ (.head _)) (D J) (qN (D J)))<|bg J<|bM J J<|bM J J<|f9 J<|aP J<|aW J<|bg J<|cq h fun t q_t h=>aI J (fun Z=>lc dK J J) ?_
  obtain⟨r,h1t,h0t⟩:=og q_t
  have q_rg:=fun V=>(h1t V).1
  refine aI J (fun Z=>cg Ia (EN _ (q_rg Z)) ⟨(ca J Z),aX⟩) ?_
  obtain⟨r1,h1t⟩:=Ij (fun V=>(h1t V).2)
  have q_r1g:=fun V=>(h1t V).1
  refine aI J (fun Z=>cg IE (FV _ (q_r1g Z)) ⟨(ca J Z),aX⟩)<|K (ef (D J) (fun V=>(ca J V)) (fun V=>(h1t V).2) h0t)<|aP J ?_;refine BR (hg:=fun ok ob1 l2 c3 l3 c4=>il yld (dQ yld tl) i e2 s1 ok ob1=some R) (Of:=fun ok ob1 l2 c3 l3 c4=>[e1,lR (sU (fun y:(aw->an->Option (((List Int)×Bool)×aw))=>gm bf r9 (cS b) sM y)) nR b1 none os7 DU,bx (rH aZ [(1,aM l2 c3 ob1.kinds.length),(2,aM l3 c4 ob1.first.length)]) 102 b ob1,tip lK 23 l2 c3 ob1.kinds,tip ce 3 l3 c4 ob1.first]) (Gf:=fun ok ob1 l2 c3 l3 c4=>[(0,tV yv),(1,bp (rT (tV (aq b 0))) ()),(3,tV (k4 b1)),(4,bX (i:Int)),(5,bp ap e2),(6,gm bf r9 (cS b) sM ((oL DU e2.Op).getD (fun _ _=>none))),(8,ec ok),(33,eE (ap) c.Logic.Nodes),(34,f6 c.Logic.Nodes),(35,bX (i:Int))]) (fun ok ob1 l2 c3 l3 c4 h=>?_) (fun ae=>?_)
  ·skip
   refine T<|gb ce<|bO ?_;refine BQ (hg:=fun ok1 kinds ob2 l4 c5 l5 c6=>ik yld (dQ yld tl) i s1 ok1 kinds ob2=some R) (Of:=fun ok1 kinds ob2 l4 c5 l5 c6=>[e1,lR (sU (fun y:(aw->an->Option (((List Int)×Bool)×aw))=>gm bf r9 (cS b) sM y)) nR b1 none os7 DU,bx (rH aZ [(1,aM l4 c5 ob2.kinds.length),(2,aM l5 c6 ob2.first.length)]) 102 b ob2,tip lK 23 l4 c5 ob2.kinds,tip ce 3 l5 c6 ob2.first]) (Gf:=fun ok1 kinds ob2 l4 c5 l5 c6=>[(0,tV yv),(1,bp (rT (tV (aq b 0))) ()),(3,tV (k4 b1)),(4,bX (i:Int)),(8,ec ok1),(10,jT kinds),(33,eE (ap) c.Logic.Nodes),(34,f6 c.Logic.Nodes),(35,bX (i:Int))]) (fun ok1 kinds ob2 l4 c5 l5 c6 h=>?_) (fun K1=>?_)
   ·skip
    refine aW J<|bg J<|aI J (cB J)<|aI J (i5 ed J)<|aI J (fun Z=>iK (ca J Z) hI)<|dq J<|aP J<|aF<|cq h fun l6 q_l6 h=>?_
    refine gw 8 [tc (tV (aq b 0)),tc (tV (aq b 0)),tc (tV (aq b 0)),tc (tV (aq b 1)),tc (tO lK l4 c5 ob2.kinds),tc (jT kinds),tc (eE (lK) ([kinds])),([7],fun s=>tO lK ((s.getD 0 nh).h 0).1 ((s.getD 0 nh).h 0).2 l6)] [false,false,false,false,false,false,false,true] [fun _=>[e1,lR (sU (fun y:(aw->an->Option (((List Int)×Bool)×aw))=>gm bf r9 (cS b) sM y)) nR b1 none os7 DU,bx (rH aZ [(1,aM l4 c5 ob2.kinds.length),(2,aM l5 c6 ob2.first.length)]) 102 b ob2,tip lK 23 l4 c5 ob2.kinds,tip ce 3 l5 c6 ob2.first],fun sg=>[tip lK 23 ((sg 7).h 0).1 ((sg 7).h 0).2 l6,e1,lR (sU (fun y:(aw->an->Option (((List Int)×Bool)×aw))=>gm bf r9 (cS b) sM y)) nR b1 none os7 DU,bx (rH aZ [(1,aM l4 c5 ob2.kinds.length),(2,aM l5 c6 ob2.first.length)]) 102 b ob2,tip ce 3 l5 c6 ob2.first]] J mixed J J J J J
     ⟨⟨[⟨1,fun _=>bp (rT (tV (aq b 0))) (),none⟩],_,0,1,J,⟨(fun _=>J),aX⟩,J,J,J,J,J,fun _ sg _ _=>ac J (gq kD (D J))⟩,
     ⟨⟨[⟨1,fun _=>bp (rT (tV (aq b 0))) (),none⟩],_,0,0,J,⟨(fun _=>J),aX⟩,J,J,J,J,J,fun _ sg _ _=>ac J (gq kD (D J))⟩,
     ⟨⟨[⟨84,fun _=>tV (aq b 0),some 1⟩],_,0,0,J,⟨(fun _=>J),aX⟩,J,J,J,J,J,fun _ sg _ _=>ac J (eK (D J))⟩,
     ⟨⟨[⟨85,fun _=>tV (aq b 0),some 2⟩],_,0,0,J,⟨(fun _=>J),aX⟩,J,J,J,J,J,fun _ sg _ _=>ac J (pr 1 iX J J J)⟩,
     ⟨⟨[⟨86,fun _=>tV (aq b 1),some 3⟩],_,0,0,J,⟨(fun _=>J),aX⟩,J,J,J,J,J,qD (fun sg=>ac J (eg mN J (.tail _ (.tail _ (.head _))) (.tail _ (.tail _ (.tail _ (.head _)))) (D J)))⟩,
     ⟨⟨[⟨10,fun _=>X r8 kinds,none⟩],_,0,0,J,⟨(fun _=>J),aX⟩,J,J,J,J,J,fun _ sg _ _=>ac J (jJ J)⟩,
     ⟨⟨[⟨88,fun _=>X r8 kinds,some 5⟩],_,0,0,J,⟨(fun _=>J),aX⟩,J,J,J,J,J,fun _ sg _ _=>ac J (aQ (r:=r8) (ys:=[kinds]) (xs:=[.tmp 88]) oy dJ J J J J J ⟨(D J),aX⟩)⟩,
     ⟨⟨[⟨87,fun _=>tO r8 l4 c5 ob2.kinds,some 4⟩,⟨89,fun _=>X (eY r8) ([kinds]),some 6⟩],_,J,⟨(fun _=>J),(fun _=>J),aX⟩,J,J,J,fun sg=>ck J (EffOK.fr3 (s7 dJ J J J J oy J (D J) (D J) q_l6))⟩,
     aX⟩⟩⟩⟩⟩⟩⟩⟩ (fun sg=>?_)
    refine(show RG _ _ _ _ [_,_,_,_,_] _ from ?_);refine K (eK (D J))<|bD 1 iX J<|qe (EffOK.fr3 (uS (hs' :=[(1,aM ((sg 7).h 0).1 ((sg 7).h 0).2 l6.length),(2,aM l5 c6 ob2.first.length)]) (u:=aM ((sg 7).h 0).1 ((sg 7).h 0).2 l6.length) mN J J wH J ⟨.inl ⟨J,J,J⟩,.inr ⟨J,J⟩,aX⟩ (D J) (i7 (D J)) (oz (D J)))) fun i1=>?_;refine(show RG _ _ _ _ [_,_,_,_,_] _ from ?_);refine bO<|aW J<|bg J<|bg J<|cn<|cq h fun r2 q_r2 h=>Dp hy he1 q_r2 (D J) ⟨(D J),(D J),aX⟩ J fun e3 he2=>K (fV (D J))<|bg J<|aV J (cB J)<|aV J (pt J)<|fg J<|cw h J (fun h=>?_) (fun h=>?_)
    ·exact hJ<|cZ<|ak<|jG<|bq<|aH<|bq<|bq<|bq<|bq<|so h▸y6 J he2 (FO [(((sg 7).h 0).1,((sg 7).h 0).2),(l5,c6)]) J
    ·refine bH<|cP I hN J<|ci<|bq<|bq<|ci<|ci ?_;exact aY (aN (ih (i+1) e3 r2.2 ({ob2 with kinds:=l6}:aw) ((sg 7).h 0).1 ((sg 7).h 0).2 l5 c6 ⟨cI I,⟨he2,h⟩⟩) (bk J))
   ·skip
    refine aW J<|cw h J (fun h=>?_) (fun h=>?_)
    ·refine aC<|bg J<|bn dK J<|cq h fun r3 q_r3 h=>Ag (EffOK.fr4 (EffOK.fr4 (EffOK.fr4 (xj (args:=r9) (Ob:=cS b) (res:=sM) (f:=((oL DU e2.Op).getD (fun _ _=>none))) (x:=ob1) (y:=((e2):an)) (R:=r3) (i:=(FO [(l2,c3),(l3,c4)])) (xs:=[.tmp 73]) _ J (D J) q_r3 ⟨(D J),aX⟩ (fun _=>J))))) J fun i2=>?_;refine(show RG _ _ _ _ [_,_,_,_,_] ((74,tT [jT r3.1.1,ec r3.1.2])::_)from ?_);refine bg J<|bM J J<|bM J J<|f9 J<|f9 J<|bc<|aA<|aA<|aA<|ci<|ci ?_;exact bY (K1 r3.1.2 r3.1.1 r3.2 (i2.h 0).1 (i2.h 0).2 (i2.h 1).1 (i2.h 1).2 h) (bk J)
    ·refine bH ?_;exact bY (K1 ok ([]) ob1 l2 c3 l3 c4 h) (bk J)
  ·skip
   refine aW J<|cw h J (fun h=>?_) (fun h=>?_)
   ·refine T<|cx<|bO<|T<|K (gq kD (D J))<|bg J<|cq h fun r4 q_r4 h=>Ag (EffOK.fr4 (EffOK.fr4 (EffOK.fr4 (BA (xs:=[.tmp 55,.tmp 56]) (ts:=[tV (aq b 0),bX (i:Int)]) (cS b ob (FO [(l,c1),(l1,c2)])) _ J H9 (Gq b (FO [(l,c1),(l1,c2)]) ob _ q_r4) ⟨(D J),(D J),aX⟩ (fun _=>J))))) J fun i3=>?_;refine(show RG _ _ _ _ [_,_,_,_,_] ((57,tT [bX r4.1,ec r4.2])::_)from ?_);refine bg J<|bM J J<|bM J J<|f9 J<|aP J<|cq h fun l7 q_l7 h=>?_
    refine gw 8 [tc (tV (aq b 0)),tc (tV (aq b 0)),tc (tV (aq b 0)),tc (tV (aq b 2)),tc (tO ce l1 c2 ob.first),tc (bX r4.1),tc (jT ([r4.1])),([7],fun s=>tO ce ((s.getD 0 nh).h 0).1 ((s.getD 0 nh).h 0).2 l7)] [false,false,false,false,false,false,false,true] [fun _=>[bx (rH aZ [(1,aM l c1 ob.kinds.length),(2,aM l1 c2 ob.first.length)]) 102 b ob,tip lK 23 l c1 ob.kinds,tip ce 3 l1 c2 ob.first,e1,lR (sU (fun y:(aw->an->Option (((List Int)×Bool)×aw))=>gm bf r9 (cS b) sM y)) nR b1 none os7 DU],fun sg1=>[tip ce 3 ((sg1 7).h 0).1 ((sg1 7).h 0).2 l7,bx (rH aZ [(1,aM l c1 ob.kinds.length),(2,aM l1 c2 ob.first.length)]) 102 b ob,tip lK 23 l c1 ob.kinds,e1,lR (sU (fun y:(aw->an->Option (((List Int)×Bool)×aw))=>gm bf r9 (cS b) sM y)) nR b1 none os7 DU]] J mixed J J J J J
     ⟨⟨[⟨1,fun _=>bp (rT (tV (aq b 0))) (),none⟩],_,0,1,J,⟨(fun _=>J),aX⟩,J,J,J,J,J,fun _ sg1 _ _=>ac J (gq kD (D J))⟩,
     ⟨⟨[⟨1,fun _=>bp (rT (tV (aq b 0))) (),none⟩],_,0,0,J,⟨(fun _=>J),aX⟩,J,J,J,J,J,fun _ sg1 _ _=>ac J (gq kD (D J))⟩,
     ⟨⟨[⟨61,fun _=>tV (aq b 0),some 1⟩],_,0,0,J,⟨(fun _=>J),aX⟩,J,J,J,J,J,fun _ sg1 _ _=>ac J (eK (D J))⟩,
     ⟨⟨[⟨62,fun _=>tV (aq b 0),some 2⟩],_,0,0,J,⟨(fun _=>J),aX⟩,J,J,J,J,J,fun _ sg1 _ _=>ac J (pr 2 nK J J J)⟩,
     ⟨⟨[⟨63,fun _=>tV (aq b 2),some 3⟩],_,0,0,J,⟨(fun _=>J),aX⟩,J,J,J,J,J,qD (fun sg1=>ac J (eg dJ J (.head _) (.tail _ (.tail _ (.head _))) (D J)))⟩,
     ⟨⟨[⟨9,fun _=>X ce r4.1,none⟩],_,0,0,J,⟨(fun _=>J),aX⟩,J,J,J,J,J,fun _ sg1 _ _=>ac J (jJ J)⟩,
     ⟨⟨[⟨65,fun _=>X ce r4.1,some 5⟩],_,0,0,J,⟨(fun _=>J),aX⟩,J,J,J,J,J,fun _ sg1 _ _=>ac J (aQ (r:=ce) (ys:=[r4.1]) (xs:=[.tmp 65]) ed bR J J J J J ⟨(D J),aX⟩)⟩,
     ⟨⟨[⟨64,fun _=>tO ce l1 c2 ob.first,some 4⟩,⟨66,fun _=>X r8 ([r4.1]),some 6⟩],_,J,⟨(fun _=>J),(fun _=>J),aX⟩,J,J,J,fun sg1=>ck J (EffOK.fr2 (s7 bR J J J J ed J (D J) (D J) q_l7))⟩,
     aX⟩⟩⟩⟩⟩⟩⟩⟩ (fun sg1=>?_)
    refine(show RG _ _ _ _ [_,_,_,_,_] _ from ?_);refine K (eK (D J))<|bD 2 nK J<|qe (EffOK.fr1 (uS (hs' :=[(1,aM l c1 ob.kinds.length),(2,aM ((sg1 7).h 0).1 ((sg1 7).h 0).2 l7.length)]) (u:=aM ((sg1 7).h 0).1 ((sg1 7).h 0).2 l7.length) dJ J J wG J ⟨.inr ⟨J,J⟩,.inl ⟨J,J,J⟩,aX⟩ (D J) (i7 (D J)) (oz (D J)))) fun i4=>?_;refine(show RG _ _ _ _ [_,_,_,_,_] _ from ?_);refine bc<|bm<|aA<|aA<|ci<|ci ?_;exact bY (ae r4.2 ({ob with first:=l7}:aw) l c1 ((sg1 7).h 0).1 ((sg1 7).h 0).2 h) (bk J)
   ·refine bH ?_;exact bY (ae t ob l c1 l1 c2 h) (bk J)

end Go.Proofs.YtbmmihfagmchaaaGreat

