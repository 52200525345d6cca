/- dr of this claim: P3. -/
import Derived.Test.YtnmjbolollcokaaGreatDoorRdT
import Derived.Test.YtnmjbolollcokaaGreatDoorRdP2
set_option linter.all false
namespace Go.Proofs.YtnmjbolollcokaaGreatDoor
open Go
set_option maxRecDepth 100000

theorem Rz(s:(List mB))(f:(mB→Option Bool)){R:Bool}(h:fv s f=some R):bo bl 212 [fc (kJ) s,(kz bl N9 qr (fun(x:mB)=>f x))] (gq R):=by
 refine bo.of Tryz.func212 J J J fun w0 S0=>aw<|zo J (ez)<|au<|aw<|aE J<|aE J<|bz h fun r q_r h=>zo J (aC Ww (Rj _ _ q_r) ⟨(ht J),(ht J),aT⟩)<|zo J (cU (ht J) hI)<|bu J<|au<|ak ?_;cases so h;exact aF J J

theorem UO(b:Nat)(ix:OI)(c:aG)(n:af){R:(List Int)×Bool}(h:hM c n=some R):d2 bl 155 [tV (aM b 0),tD ah n] (d4 b c ix) (fun _:OI=>tT [dI R.1,gq R.2]) (fun _=>(d4 b c ix)):=by
 refine d2.of Tryz.func155 J J J fun w0 S0=>?_;refine(show CG _ _ _ [bx (rH bv [(1,aV (ix.h 0).1 (ix.h 0).2 c.kinds.length),(2,aV (ix.h 1).1 (ix.h 1).2 c.first.length)]) 123 b c,tip gG 42 (ix.h 0).1 (ix.h 0).2 c.kinds,tip cx 3 (ix.h 1).1 (ix.h 1).2 c.first] _ from ?_);refine aw<|zo J (jt J)<|zo J (aU (show aZ _ _ _ mJ from jr))<|zo J (ez)<|au<|ac<|bz h fun e q_e h=>?_
 refine iK 9 [tc (tV (aM b 0)),tc (tV (aM b 0)),tc (tV (aM b 1)),tc (tO gG (ix.h 0).1 (ix.h 0).2 c.kinds),tc (bt cx n.A),tc (cb n.A),tc (bt gG e),tc (dI e),([8],fun s=>tV (aM ((s.getD 0 nz).h 0).2 0))] [false,false,false,false,false,false,false,false,true] [fun _=>[bx (rH bv [(1,aV (ix.h 0).1 (ix.h 0).2 c.kinds.length),(2,aV (ix.h 1).1 (ix.h 1).2 c.first.length)]) 123 b c,tip gG 42 (ix.h 0).1 (ix.h 0).2 c.kinds,tip cx 3 (ix.h 1).1 (ix.h 1).2 c.first],fun sg=>[bx gG 42 ((sg 8).h 0).2 ([]),bx (rH bv [(1,aV (ix.h 0).1 (ix.h 0).2 c.kinds.length),(2,aV (ix.h 1).1 (ix.h 1).2 c.first.length)]) 123 b c,tip gG 42 (ix.h 0).1 (ix.h 0).2 c.kinds,tip cx 3 (ix.h 1).1 (ix.h 1).2 c.first]] J mixed J J J J J
  ⟨⟨[⟨0,fun _=>tV (aM b 0),none⟩],_,0,1,J,⟨(fun _=>J),aT⟩,J,J,J,J,J,fun _ sg _ _=>aa J (cG J)⟩,
  ⟨⟨[⟨9,fun _=>tV (aM b 0),some 0⟩],_,0,1,J,⟨(fun _=>J),aT⟩,J,J,J,J,J,fun _ sg _ _=>aa J (eJ (ht J))⟩,
  ⟨⟨[⟨10,fun _=>tV (aM b 0),some 1⟩],_,0,1,J,⟨(fun _=>J),aT⟩,J,J,J,J,J,fun _ sg _ _=>aa J (dy 1 oc J J J)⟩,
  ⟨⟨[⟨11,fun _=>tV (aM b 1),some 2⟩],_,0,1,J,⟨(fun _=>J),aT⟩,J,J,J,J,J,vV (fun sg=>aa J (eY wW J (.head _) (.tail _ (.head _)) (ht J))) (tU (fun sg=>aa J (eY wW J (.tail _ (.head _)) (.tail _ (.tail _ (.head _))) (ht J))))⟩,
  ⟨⟨[⟨3,fun _=>bt ah n,none⟩],_,0,1,J,⟨(fun _=>J),aT⟩,J,J,J,J,J,fun _ sg _ _=>aa J (bD fC cY J J)⟩,
  ⟨⟨[⟨13,fun _=>bt cx n.A,some 4⟩],_,0,1,J,⟨(fun _=>J),aT⟩,J,J,J,J,J,fun _ sg _ _=>aa J (bm bA J J)⟩,
  ⟨⟨[⟨12,fun _=>tO oS (ix.h 0).1 (ix.h 0).2 c.kinds,some 3⟩,⟨14,fun _=>tD cx n.A,some 5⟩],_,0,1,J,⟨(fun _=>J),(fun _=>J),aT⟩,J,J,J,J,J,fun _ sg _ _=>aa J (aQ uw cD J (kT (ht J)) (ht J) q_e)⟩,
  ⟨⟨[⟨15,fun _=>bt oS e,some 6⟩],_,0,1,J,⟨(fun _=>J),aT⟩,J,J,J,J,J,fun _ sg _ _=>aa J (bm cD J J)⟩,
  ⟨⟨[],_,J,aT,J,J,J,fun sg=>bN J (ev (r:=oS) (x:=[]) cD (fun _=>⟨none,0,J,eW _,iP _,.inl J⟩))⟩,
  aT⟩⟩⟩⟩⟩⟩⟩⟩⟩ (fun sg=>?_)
 refine(show RG _ _ _ _ [bx gG 42 ((sg 8).h 0).2 ([]),bx (rH bv [(1,aV (ix.h 0).1 (ix.h 0).2 c.kinds.length),(2,aV (ix.h 1).1 (ix.h 1).2 c.first.length)]) 123 b c,tip gG 42 (ix.h 0).1 (ix.h 0).2 c.kinds,tip cx 3 (ix.h 1).1 (ix.h 1).2 c.first] _ from ?_);refine ai cD J aj J (ht J) (ht J)<|bh 6 J<|au<|aw<|zo J ((show cH _ _ _ _ ((kz bl N9 qr (fun(x:mB)=>(lq e) x)))from sx (cts:=[bt gG e]) (caps:=[.tmp 6]) WP ⟨(ht J),aT⟩ (fun x y h=>RA _ _ h)))<|bu J<|au<|aw<|zo J (bD lX gD J J)<|zo J (bm xh J J)<|zo J (fW vS J)<|zo J (g9 (ht J) hI)<|aE J<|bz h fun t q_t h=>bX J J (fun hg=>bD lX gD J J)<|bX J J (fun hg=>aI xh J J (aS J hg))<|bX J J (fun hg=>cG J) ?_
 obtain⟨r,h1t,h0t⟩:=og q_t
 have q_rg:=fun hb=>(h1t hb).1
 refine bX J J (fun hg=>aC WO (Rz _ _ (q_rg hg)) ⟨(aS J hg),(aS J hg),aT⟩)<|bX J J (fun hg=>dh (aS J hg))<|zo J (cS (ht J) (fun hb=>(aS J hb)) (fun hb=>(h1t hb).2) h0t)<|aE J<|bX J J (fun hg=>bD tu ne J J)<|bX J J (fun hg=>aI bA J J (aS J hg))<|bX J J (fun hg=>cU (aS J hg) hI)<|zo J (mI J J)<|aE J<|bX J J (fun hg=>bD tu ne J J)<|bX J J (fun hg=>aI bA J J (aS J hg))<|bX J J (fun hg=>g9 (aS J hg) hI)<|zo J (mI J J)<|bu J<|au<|ac ?_
 refine eu (ts:=[_,_,_,_,_,_,_,_,_,_,_,_,_,_,_,_,_,_,_]) mixed J J
  ⟨ef 6 J J J (bm cD J J),
  ⟨ef 8 J J J (cG J),
  ⟨cT 40 1 J J J (cG J),
  ⟨oj 0 41 2 J J J J (dn J J J J (fun hg=>cG J)),
  ⟨gj 42 3 41 2 J J J J (dn J J J J (fun hg=>eJ (aS J hg))),
  ⟨gj 43 4 41 2 J J J J (dn J J J J (fun hg=>mo (n:=1) oc J (aS J hg) J)),
  ⟨gj 44 5 41 2 J J J J (dn J J J J (fun hg=>eY wW J (.head _) (.tail _ (.head _)) (aS J hg))),
  ⟨gj 45 6 41 2 J J J J (dn J J J J (fun hg=>bU uw (kT (aS J hg)))),
  ⟨oj 0 41 2 J J J J (dn J J J J (fun hg=>cG J)),
  ⟨gj 47 8 41 2 J J J J (dn J J J J (fun hg=>eJ (aS J hg))),
  ⟨gj 48 9 41 2 J J J J (dn J J J J (fun hg=>mo (n:=0) Hc J (aS J hg) J)),
  ⟨gj 49 10 41 2 J J J J (dn J J J J (fun hg=>mo (n:=0) jn J (aS J hg) J)),
  ⟨gj 50 11 41 2 J J J J (dn J J J J (fun hg=>aA (r:=rH bv [(1,aV (ix.h 0).1 (ix.h 0).2 c.kinds.length),(2,aV (ix.h 1).1 (ix.h 1).2 c.first.length)]) (x:=c) iB J J (No (ui wu dM)) (.head _) (aS J hg))),
  ⟨gj 51 12 41 2 J J J J (dn J J J J (fun hg=>bU om (aS J hg))),
  ⟨gj 52 13 41 2 J J J J (dn J J J J (fun hg=>dL (aS J hg) hI)),
  ⟨sd 46 7 53 14 41 2 J J J J J (dn J J J J (fun hg=>cw (aS J hg) (aS J hg))),
  ⟨dG 41 2 54 15 J J J J (mI J J),
  ⟨cT 39 0 J J J (zm J),
  ⟨cT 55 16 J J J (zm J),
  aT⟩⟩⟩⟩⟩⟩⟩⟩⟩⟩⟩⟩⟩⟩⟩⟩⟩⟩⟩ ?_
 refine aq<|ak<|aD<|aD<|aD ?_;cases so h;exact ln (ts:=[dI e,gq (((t&&(decide (mK≤n.Limit)))&&(decide (n.Limit≤(2147483647:Int))))&&((c.kinds.length:Int)==(IntKind.i64.wrap ((c.Logic.Nodes.length:Int)-(1:Int)))))]) (rvs:=[.tmp 4,.tmp 5]) J J ⟨dA J,dA J,aT⟩ nz J J

theorem R0(n:af){R:Bool}(h:uf n=some R):bo bl 156 [tD ah n] (gq R):=by
 refine bo.of Tryz.func156 J J J fun w0 S0=>aw<|zo J (jt J)<|zo J (ez)<|au<|aw<|zo J (bD oL hZ J J)<|zo J (bm bA J J)<|zo J (iz J)<|aE J<|bX J J (fun hg=>bD ly fq J J)<|bX J J (fun hg=>aI cD J J (aS J hg))<|bX J J (fun hg=>bU dc (aS J hg))<|bX J J (fun hg=>cw (aS J hg) hI)<|zo J (mI J J)<|aE J<|bX J J (fun hg=>bD Eg ww J J)<|bX J J (fun hg=>aI yK J J (aS J hg))<|bX J J (fun hg=>dh (aS J hg))<|zo J (mI J J)<|aE J ?_;refine bX J J (fun hg=>bD p7 jB J J)<|bX J J (fun hg=>d6 de J bZ J (aS J hg))<|bX J J (fun hg=>aI ir J J (aS J hg))<|bX J J (fun hg=>bU oo (aS J hg))<|bX J J (fun hg=>cw (aS J hg) hI)<|zo J (mI J J)<|aE J<|bX J J (fun hg=>bD jP d8 J J)<|bX J J (fun hg=>aI cD J J (aS J hg))<|bX J J (fun hg=>bU dc (aS J hg))<|bX J J (fun hg=>cw (aS J hg) hI)<|zo J (mI J J)<|aE J<|bX J J (fun hg=>bD io ek J J)<|bX J J (fun hg=>aI pr J J (aS J hg))<|bX J J (fun hg=>bU nC (aS J hg))<|bX J J (fun hg=>cw (aS J hg) hI)<|zo J (mI J J)<|aE J<|bX J J (fun hg=>bD lg fN J J)<|bX J J (fun hg=>aI te J J (aS J hg))<|bX J J (fun hg=>bU nc (aS J hg))<|bX J J (fun hg=>cw (aS J hg) hI)<|zo J (mI J J) ?_;refine aE J<|bX J J (fun hg=>bD lX gD J J)<|bX J J (fun hg=>aI xh J J (aS J hg))<|bX J J (fun hg=>bU vS (aS J hg))<|bX J J (fun hg=>cw (aS J hg) hI)<|zo J (mI J J)<|aE J<|bX J J (fun hg=>bD tu ne J J)<|bX J J (fun hg=>aI bA J J (aS J hg))<|bX J J (fun hg=>cw (aS J hg) hI)<|zo J (mI J J)<|bu J<|au<|ak ?_;cases so h;exact aF J J

theorem RZ(n:af){R:af}(h:ug n=some R):bo bl 157 [tD ah n] (tD ah R):=by
 refine bo.of Tryz.func157 J J J fun w0 S0=>aw<|kO (ht J) J fun b=>bj (r:=ah) (x:=zk) cz (fun _=>iT _) J fun b1=>au<|ac<|aw<|zo J (dy 0 lh J J J)<|zo J (aA bA J J eP (.tail _ (.head _)) (ht J))<|au<|ax<|aw<|zo J (iz J)<|bu J<|au<|cE h J (fun h=>?_) (fun h=>?_)
 ·refine am<|zo J (dy 3 oL J J J)<|bL<|ai bA J v7 J (ht J) hI<|zo J (dy 4 ly J J J)<|ai cD J tW J (ht J) jr<|aJ<|an<|aq<|aw<|zo rfl (aA (x:=(af.mk n.Op n.A n.B (0:Int) ([]) n.Left n.Cond n.Keys n.Aggs n.Items n.Order n.Limit)) cz J J aR (.head _) (ht J))<|bL<|ai cz J aj J (ht J) (ht J)<|bh 2 J<|au<|ak<|aL ?_;cases so h;exact dF J cz J J J
 ·refine aw<|zo J (iz J)<|bu J<|au<|cE h J (fun h=>?_) (fun h=>?_)
  ·refine am<|zo J (cm (y:=nD) eN Ua rA (J))<|zo J (dy 5 Eg J J J)<|bL<|ai yK J J2 J (ht J) hB<|zo J (dy 6 p7 J J J)<|ai eN J zx J (ht J) (ht J)<|aJ<|an<|aq<|aw<|zo rfl (aA (x:=(af.mk n.Op n.A n.B n.Table n.Kinds false nD n.Keys n.Aggs n.Items n.Order n.Limit)) cz J J aR (.head _) (ht J))<|bL<|ai cz J aj J (ht J) (ht J)<|bh 2 J<|au<|ak<|aL ?_;cases so h;exact dF J cz J J J
  ·refine aw<|zo J (iz J)<|bu J<|au<|cE h J (fun h=>?_) (fun h=>?_)
   ·refine am<|zo J (cm (y:=nD) eN Ua rA (J))<|zo J (dy 6 p7 J J J)<|bL<|ai eN J zx J (ht J) (ht J)<|aJ<|an<|aq<|aw<|zo rfl (aA (x:=(af.mk n.Op n.A n.B n.Table n.Kinds n.Left nD n.Keys n.Aggs n.Items n.Order n.Limit)) cz J J aR (.head _) (ht J))<|bL<|ai cz J aj J (ht J) (ht J)<|bh 2 J<|au<|ak<|aL ?_;cases so h;exact dF J cz J J J
   ·refine aw<|zo J (iz J)<|bu J<|au<|cE h J (fun h=>?_) (fun h=>?_)
    ·refine am<|zo J (dy 7 jP J J J)<|bL<|ai cD J DB J (ht J) jr<|zo J (dy 8 io J J J)<|ai pr J DA J (ht J) jr<|aJ<|an<|aq<|aw<|zo rfl (aA (x:=(af.mk n.Op n.A n.B n.Table n.Kinds n.Left n.Cond ([]) ([]) n.Items n.Order n.Limit)) cz J J aR (.head _) (ht J))<|bL<|ai cz J aj J (ht J) (ht J)<|bh 2 J<|au<|ak<|aL ?_;cases so h;exact dF J cz J J J
    ·refine aw<|zo J (iz J)<|bu J<|au<|cE h J (fun h=>?_) (fun h=>?_)
     ·refine am<|zo J (dy 9 lg J J J)<|bL<|ai te J J1 J (ht J) jr<|aJ<|an<|aq<|aw<|zo rfl (aA (x:=(af.mk n.Op n.A n.B n.Table n.Kinds n.Left n.Cond n.Keys n.Aggs ([]) n.Order n.Limit)) cz J J aR (.head _) (ht J))<|bL<|ai cz J aj J (ht J) (ht J)<|bh 2 J<|au<|ak<|aL ?_;cases so h;exact dF J cz J J J
     ·refine aw<|zo J (iz J)<|bu J<|au<|cE h J (fun h=>?_) (fun h=>?_)
      ·refine am<|zo J (dy 10 lX J J J)<|bL<|ai xh J B8 J (ht J) jr<|zo J (dy 11 tu J J J)<|ai bA J H7 J (ht J) hI<|aJ<|an<|aq<|aw<|zo rfl (aA (x:=(af.mk n.Op n.A n.B n.Table n.Kinds n.Left n.Cond n.Keys n.Aggs n.Items ([]) (0:Int))) cz J J aR (.head _) (ht J))<|bL<|ai cz J aj J (ht J) (ht J)<|bh 2 J<|au<|ak<|aL ?_;cases so h;exact dF J cz J J J
      ·refine bk<|an<|aq<|aw<|zo rfl (aA cz rfl rfl aR (.tail _ (.head _)) (ht rfl))<|ai cz rfl aj rfl (ht rfl) (ht rfl)<|bh 2 rfl<|au<|ak<|aL ?_;cases so h;exact dF J cz J J J

theorem Ry(op:Int){R:Int}(h:uQ op=some R):bo bl 213 [cb op] (cb R):=by
 refine bo.of Tryz.func213 J J J fun w0 S0=>aw<|zo J (dB)<|au<|ac<|aw<|aE J<|au<|ax<|aw<|zo J (iz J)<|bu J<|au<|cE h J (fun h=>?_) (fun h=>?_)
 ·refine aw<|zo J (dB)<|au<|ak ?_;refine ay (M ?_);cases so h;exact aF J J
 ·refine dD (Z:=fun x=>qK x=some R) (Of:=fun x=>[]) (Gf:=fun x=>[(6,gq x)]) (fun x h=>?_) (fun K=>?_)
  ·skip
   refine cE h J (fun h=>?_) (fun h=>?_)
   ·refine aw<|zo J (dB)<|au<|ak ?_;refine ay (M ?_);cases so h;exact aF J J
   ·refine bk<|an<|aq<|aw<|zo rfl (dB)<|au<|ak ?_;cases so h;exact aF J J
  ·skip
   refine aw<|zo J (iz J)<|bu J<|au<|cE h J (fun h=>?_) (fun h=>?_)
   ·refine bk ?_;exact bJ (K (op==(2:Int)) h) (bg J)
   ·refine am<|zo J (iz J)<|bu J<|aJ ?_;exact bJ (K (op==(7:Int)) h) (bg J)

theorem UN(b:Nat)(ix:OI)(c:aG)(i:Int){R:Int×Bool}(h:kF c i=some R):d2 bl 158 [tV (aM b 0),cb i] (d4 b c ix) (fun _:OI=>tT [cb R.1,gq R.2]) (fun _=>(d4 b c ix)):=by
 refine d2.of Tryz.func158 J J J fun w0 S0=>?_;refine(show CG _ _ _ [bx (rH bv [(1,aV (ix.h 0).1 (ix.h 0).2 c.kinds.length),(2,aV (ix.h 1).1 (ix.h 1).2 c.first.length)]) 123 b c,tip gG 42 (ix.h 0).1 (ix.h 0).2 c.kinds,tip cx 3 (ix.h 1).1 (ix.h 1).2 c.first] _ from ?_);refine aw<|zo J (dB)<|zo J (ez)<|au<|aw<|aE J<|zo J (eJ (ht J))<|zo J (dy 0 Hc J J J)<|zo J (dy 0 jn J J J)<|zo J (aA (r:=rH bv [(1,aV (ix.h 0).1 (ix.h 0).2 c.kinds.length),(2,aV (ix.h 1).1 (ix.h 1).2 c.first.length)]) (x:=c) iB J J (No (ui wu dM)) (.head _) (ht J))<|aE J<|bz h fun e q_e h=>zo J (iQ om cz J J J q_e)<|zo J (bm cz J J)<|bj (r:=ah) (x:=zk) cz (fun _=>iT _) J fun b1=>ai cz J aj J (ht J) (ht J)<|bh 6 J<|au<|ac<|ac ?_;refine am<|zo J (bD lh eP J J)<|zo J (bm bA J J)<|bz h fun r q_r h=>zo J (aC WN (Ry _ q_r) ⟨(ht J),aT⟩)<|au<|ax<|aw<|zo J (iz J)<|bu J<|au<|cE h J (fun h=>?_) (fun h=>?_)
 ·refine ac ?_
  refine eu (ts:=[_,_,_,_,_,_,_,_,_,_,_]) mixed J J
   ⟨ef 1 J J J (cG J),
   ⟨ef 6 J J J (bD fC cY J J),
   ⟨cT 21 1 J J J (bm bA J J),
   ⟨cT 22 2 J J J (iz J),
   ⟨cT 23 3 J J J (cG J),
   ⟨oj 6 24 4 J J J J (dn J J J J (fun hg=>bD iy d9 J J)),
   ⟨gj 25 5 24 4 J J J J (dn J J J J (fun hg=>aI bA J J (aS J hg))),
   ⟨gj 26 6 24 4 J J J J (dn J J J J (fun hg=>cw (aS J hg) hI)),
   ⟨dG 24 4 27 7 J J J J (mI J J),
   ⟨cT 20 0 J J J (zm J),
   ⟨cT 28 8 J J J (zm J),
   aT⟩⟩⟩⟩⟩⟩⟩⟩⟩⟩⟩ ?_
  refine aq<|ak ?_;refine ay (M ?_);refine aD<|aD<|aD ?_;cases so h;exact ln (ts:=[cb i,gq ((e.A==mK)&&(e.B==mK))]) (rvs:=[.tmp 4,.tmp 5]) J J ⟨dA J,dA J,aT⟩ nz J J
 ·refine aw<|zo J (iz J)<|bu J<|au<|cE h J (fun h=>?_) (fun h=>?_)
  ·refine ac<|aw<|zo J (bD fC cY J J)<|zo J (bm bA J J)<|aE J<|zo J (dL (ht J) hI)<|zo J (cF (ht J) (ht J))<|aE J<|ci J J (fun hg=>bD iy d9 J J)<|ci J J (fun hg=>aI bA J J (aS J hg))<|ci J J (fun hg=>cF (aS J hg) hI)<|zo J (nW J J)<|aE J<|ci J J (fun hg=>cG J)<|ci J J (fun hg=>cw (aS J hg) hI)<|zo J (nW J J)<|au<|cE h J (fun h=>?_) (fun h=>?_)
   ·refine aw<|zo J (dB)<|zo J (ez)<|au<|ak ?_;refine M (ay (M ?_));refine aD<|aD<|aD ?_;cases so h;exact ln (ts:=[cb 0,gq false]) (rvs:=[.tmp 4,.tmp 5]) J J ⟨dA J,dA J,aT⟩ nz J J
   ·refine dz<|ac<|bz h fun e1 q_e1 h=>?_
    refine eu (ts:=[_,_,_,_,_,_,_,_,_,_]) mixed J J
     ⟨ef 0 J J J (cG J),
     ⟨cT 45 0 J J J (eJ (ht J)),
     ⟨cT 46 1 J J J (dy 2 uZ J J J),
     ⟨cT 47 2 J J J (eY cD J (.head _) (.tail _ (.tail _ (.head _))) (ht J)),
     ⟨ef 6 J J J (bD fC cY J J),
     ⟨cT 49 4 J J J (bm bA J J),
     ⟨dG 48 3 50 5 J J J J (aQ dc bA J (kT (ht J)) (ht J) q_e1),
     ⟨cT 51 6 J J J (bm bA J J),
     ⟨cT 52 7 J J J (zm J),
     ⟨Vn J J (ez),
     aT⟩⟩⟩⟩⟩⟩⟩⟩⟩⟩ ?_
    refine aq<|ak ?_;refine ay (M ?_);refine aD<|aD<|aD ?_;cases so h;exact ln (ts:=[cb e1,gq true]) (rvs:=[.tmp 4,.tmp 5]) J J ⟨dA J,dA J,aT⟩ nz J J
  ·refine bk<|an<|aq<|ac<|ac<|bz h fun t q_t h=>?_
   obtain⟨e2,h1t,h0t⟩:=og q_t
   have q_e2g:=fun hb=>(h1t hb).1
   refine eu (ts:=[_,_,_,_,_,_,_,_,_,_,_,_,_,_,_,_,_,_,_,_,_,_,_,_,_,_,_,_]) mixed J J
    ⟨ef 6 J J J (bD iy d9 J J),
    ⟨cT 53 0 J J J (bm bA J J),
    ⟨ef 1 J J J (cG J),
    ⟨cT 55 2 J J J (dL (ht J) hI),
    ⟨dG 54 1 56 3 J J J J (cF (ht J) (ht J)),
    ⟨cT 57 4 J J J (cG J),
    ⟨oj 1 58 5 J J J J (dx J J J J (fun hg=>cG J)),
    ⟨gj 59 6 58 5 J J J J (dx J J J J (fun hg=>cw (aS J hg) hI)),
    ⟨dG 58 5 60 7 J J J J (nW J J),
    ⟨cT 61 8 J J J (cG J),
    ⟨oj 6 62 9 J J J J (dx J J J J (fun hg=>bD fC cY J J)),
    ⟨gj 63 10 62 9 J J J J (dx J J J J (fun hg=>aI bA J J (aS J hg))),
    ⟨oj 0 62 9 J J J J (dx J J J J (fun hg=>cG J)),
    ⟨gj 65 12 62 9 J J J J (dx J J J J (fun hg=>eJ (aS J hg))),
    ⟨gj 66 13 62 9 J J J J (dx J J J J (fun hg=>mo (n:=2) uZ J (aS J hg) J)),
    ⟨gj 67 14 62 9 J J J J (dx J J J J (fun hg=>eY cD J (.head _) (.tail _ (.tail _ (.head _))) (aS J hg))),
    ⟨oj 6 62 9 J J J J (dx J J J J (fun hg=>bD iy d9 J J)),
    ⟨gj 69 16 62 9 J J J J (dx J J J J (fun hg=>aI bA J J (aS J hg))),
    ⟨sd 68 15 70 17 62 9 J J J J J (dx J J J J (fun hg=>aQ dc bA J (kT (aS J hg)) (aS J hg) (q_e2g hg))),
    ⟨gj 71 18 62 9 J J J J (dx J J J J (fun hg=>aI bA J J (aS J hg))),
    ⟨gj 72 19 62 9 J J J J (dx J J J J (fun hg=>dL (aS J hg) hI)),
    ⟨sd 64 11 73 20 62 9 J J J J J (dx J J J J (fun hg=>cF (aS J hg) (aS J hg))),
    ⟨dG 62 9 74 21 J J J J (dj (ht J) (fun hb=>(aS J (nZ hb))) (fun hb=>(h1t hb).2) h0t),
    ⟨cT 75 22 J J J (cG J),
    ⟨oj 6 76 23 J J J J (dx J J J J (fun hg=>bD fC cY J J)),
    ⟨gj 77 24 76 23 J J J J (dx J J J J (fun hg=>aI bA J J (aS J hg))),
    ⟨gj 78 25 76 23 J J J J (dx J J J J (fun hg=>eO (aS J hg) hI)),
    ⟨dG 76 23 79 26 J J J J (nW J J),
    aT⟩⟩⟩⟩⟩⟩⟩⟩⟩⟩⟩⟩⟩⟩⟩⟩⟩⟩⟩⟩⟩⟩⟩⟩⟩⟩⟩⟩ ?_
   refine aq<|cE h rfl (fun h=>?_) (fun h=>?_)
   ·refine aw<|zo J (dB)<|zo J (ez)<|au<|ak<|M<|aD<|aD<|aD ?_;cases so h;exact ln (ts:=[cb 0,gq false]) (rvs:=[.tmp 4,.tmp 5]) J J ⟨dA J,dA J,aT⟩ nz J J
   ·refine dz<|ac<|bz h fun e3 q_e3 h=>?_
    refine eu (ts:=[_,_,_,_,_,_,_,_,_,_]) mixed J J
     ⟨ef 0 J J J (cG J),
     ⟨cT 81 0 J J J (eJ (ht J)),
     ⟨cT 82 1 J J J (dy 2 uZ J J J),
     ⟨cT 83 2 J J J (eY cD J (.head _) (.tail _ (.tail _ (.head _))) (ht J)),
     ⟨ef 6 J J J (bD fC cY J J),
     ⟨cT 85 4 J J J (bm bA J J),
     ⟨dG 84 3 86 5 J J J J (aQ dc bA J (kT (ht J)) (ht J) q_e3),
     ⟨cT 87 6 J J J (bm bA J J),
     ⟨cT 88 7 J J J (zm J),
     ⟨Vn J J (ez),
     aT⟩⟩⟩⟩⟩⟩⟩⟩⟩⟩ ?_
    refine aq<|ak<|aD<|aD<|aD ?_;cases so h;exact ln (ts:=[cb e3,gq true]) (rvs:=[.tmp 4,.tmp 5]) J J ⟨dA J,dA J,aT⟩ nz J J

theorem Py(b:Nat)(ix:OI)(c:aG):A5 bl 147 (fun(x:Int×Bool)=>[cb x.1,gq x.2]) (fun _=>mE c) (d4 b) (d4 b c ix) [bt (rT (tV (aM b 0))) ()]:=by
 refine A5.of Tryz.func147 J J J fun Sg yld s R h I yv hy e he w0 S0 B hB=>?_
 replace h:mE c yld s=some R:=h
 refine(show CG _ _ _ [e,bx (rH bv [(1,aV (ix.h 0).1 (ix.h 0).2 c.kinds.length),(2,aV (ix.h 1).1 (ix.h 1).2 c.first.length)]) 123 b c,tip gG 42 (ix.h 0).1 (ix.h 0).2 c.kinds,tip cx 3 (ix.h 1).1 (ix.h 1).2 c.first] _ from ?_);refine aw<|Ey (CM (fun y:(aG→af→Option (((List Int)×Bool)×aG))=>eX bl yH (d4 b) yT y)) wV J fun b1=>zo J (lR lv (ht J)) ?_
 refine u6 ((show cH _ _ _ _ (eX bl yH (d4 b) yT Ti)from kE Xx (ht J) (fun c x R h i=>by
   obtain⟨r,h1,rfl⟩:=zZ.1 h
   exact m7 (Ob:=fun j=>d4 b c j) (i:=i) (UV _ i c _ h1)))) J ?_
 refine mG (γ:=(fun y:(aG→af→Option (((List Int)×Bool)×aG))=>eX bl yH (d4 b) yT y)) (y:=Ti) Gt (lr qo) (ht J) (wX hI) (ht J) fun os=>zo J (lR lv (ht J)) ?_
 refine u6 ((show cH _ _ _ _ (eX bl yH (d4 b) yT Th)from kE Xw (ht J) (fun c x R h i=>by
   obtain⟨r,h1,rfl⟩:=zZ.1 h
   exact m7 (Ob:=fun j=>d4 b c j) (i:=i) (UU _ i c _ h1)))) J ?_
 refine mG (γ:=(fun y:(aG→af→Option (((List Int)×Bool)×aG))=>eX bl yH (d4 b) yT y)) (y:=Th) Gt (lr qo) (ht J) (wX hI) (ht J) fun os1=>zo J (lR lv (ht J)) ?_
 refine u6 ((show cH _ _ _ _ (eX bl yH (d4 b) yT Tm)from kE Xv (ht J) (fun c x R h i=>by
   obtain⟨r,h1,rfl⟩:=zZ.1 h
   exact m7 (Ob:=fun j=>d4 b c j) (i:=i) (UT _ i c _ h1)))) J ?_
 refine mG (γ:=(fun y:(aG→af→Option (((List Int)×Bool)×aG))=>eX bl yH (d4 b) yT y)) (y:=Tm) Gt (lr qo) (ht J) (wX hI) (ht J) fun os2=>zo J (lR lv (ht J)) ?_
 refine u6 ((show cH _ _ _ _ (eX bl yH (d4 b) yT Tj)from kE Xu (ht J) (fun c x R h i=>by
   obtain⟨r,h1,rfl⟩:=zZ.1 h
   exact m7 (Ob:=fun j=>d4 b c j) (i:=i) (US _ i c _ h1)))) J ?_
 refine mG (γ:=(fun y:(aG→af→Option (((List Int)×Bool)×aG))=>eX bl yH (d4 b) yT y)) (y:=Tj) Gt (lr qo) (ht J) (wX hI) (ht J) fun os3=>zo J (lR lv (ht J)) ?_
 refine u6 ((show cH _ _ _ _ (eX bl yH (d4 b) yT Tn)from kE Xt (ht J) (fun c x R h i=>by
   obtain⟨r,h1,rfl⟩:=zZ.1 h
   exact m7 (Ob:=fun j=>d4 b c j) (i:=i) (UR _ i c _ h1)))) J ?_
 refine mG (γ:=(fun y:(aG→af→Option (((List Int)×Bool)×aG))=>eX bl yH (d4 b) yT y)) (y:=Tn) Gt (lr qo) (ht J) (wX hI) (ht J) fun os4=>zo J (lR lv (ht J)) ?_
 refine u6 ((show cH _ _ _ _ (eX bl yH (d4 b) yT Tp)from kE Xs (ht J) (fun c x R h i=>by
   obtain⟨r,h1,rfl⟩:=zZ.1 h
   exact m7 (Ob:=fun j=>d4 b c j) (i:=i) (UQ _ i c _ h1)))) J ?_
 refine mG (γ:=(fun y:(aG→af→Option (((List Int)×Bool)×aG))=>eX bl yH (d4 b) yT y)) (y:=Tp) Gt (lr qo) (ht J) (wX hI) (ht J) fun os5=>zo J (lR lv (ht J)) ?_
 refine u6 ((show cH _ _ _ _ (eX bl yH (d4 b) yT Tl)from kE Xr (ht J) (fun c x R h i=>by
   obtain⟨r,h1,rfl⟩:=zZ.1 h
   exact m7 (Ob:=fun j=>d4 b c j) (i:=i) (UP _ i c _ h1)))) J ?_
 refine mG (γ:=(fun y:(aG→af→Option (((List Int)×Bool)×aG))=>eX bl yH (d4 b) yT y)) (y:=Tl) Gt (lr qo) (ht J) (wX hI) (ht J) fun os6=>zo J (lR lv (ht J)) ?_
 refine u6 ((show cH _ _ _ _ (eX bl yH (d4 b) yT Tk)from kE Xq (ht J) (fun c x R h i=>by
   obtain⟨r,h1,rfl⟩:=zZ.1 h
   exact m7 (Ob:=fun j=>d4 b c j) (i:=i) (UO _ i c _ h1)))) J ?_
 refine mG (γ:=(fun y:(aG→af→Option (((List Int)×Bool)×aG))=>eX bl yH (d4 b) yT y)) (y:=Tk) Gt (lr qo) (ht J) (wX hI) (ht J) fun os7=>aE J<|bu J<|au<|aw<|zo J (lR lv (ht J))<|zo J (eJ (ht J))<|zo J (dy 0 Hc J J J)<|zo J (dy 0 jn J J J)<|zo J (aA (r:=rH bv [(1,aV (ix.h 0).1 (ix.h 0).2 c.kinds.length),(2,aV (ix.h 1).1 (ix.h 1).2 c.first.length)]) (x:=c) iB J J (No (ui wu dM)) (.tail _ (.tail _ (.head _))) (ht J))<|zo J (fW om J)<|zo J (bQ hI)<|au<|ax<|br (k:=33) J fun hN=>bB<|rz<|rz<|rz<|ph<|rz ?_;refine aP (Ju (Z:=fun ls i e1 s1 ob l c1 l1 c2=>(c.Logic.Nodes.drop i=ls)∧I s1 e1∧bY yld ls i s1 ob=some R) (Of:=fun _ i e1 s1 ob l c1 l1 c2=>[e1,rn (CM (fun y:(aG→af→Option (((List Int)×Bool)×aG))=>eX bl yH (d4 b) yT y)) wV b1 none os7 JK,bx (rH bv [(1,aV l c1 ob.kinds.length),(2,aV l1 c2 ob.first.length)]) 123 b ob,tip gG 42 l c1 ob.kinds,tip cx 3 l1 c2 ob.first]) (Gf:=fun _ i e1 s1 ob l c1 l1 c2=>[(0,tV yv),(1,bt (rT (tV (aM b 0))) ()),(3,tV (uz b1)),(33,fc (ah) c.Logic.Nodes),(34,jV c.Logic.Nodes),(35,cb (i:Int))]) (fun i e1 s1 ob l c1 l1 c2 h=>?_) (fun e2 tl ih i e1 s1 ob l c1 l1 c2 h=>?_) c.Logic.Nodes 0 e s c (ix.h 0).1 (ix.h 0).2 (ix.h 1).1 (ix.h 1).2 ⟨J,⟨he,h⟩⟩) (bg J)
 ·obtain⟨hx,h⟩:=h
  obtain⟨he1,h⟩:=h
  refine aB<|aw<|zo J (ft J J)<|au<|ac<|bP (ht J) (dU hx)<|bp ?_;refine ae (ae (aK ?_));refine bE<|aL<|bF<|bF<|bF<|bF ?_;cases so h;exact NZ J he1 (Km [(l,c1),(l1,c2)]) J
 ·obtain⟨hx,h⟩:=h
  obtain⟨he1,h⟩:=h
  refine aB<|aw<|zo J (ft J J)<|au<|ac<|bO (ht J) (dN hx)<|dz<|ac<|ax<|aw<|aE J<|zo J (iQ om cz J J J (dO hx))<|zo J (bm cz J J)<|bj (r:=ah) (x:=zk) cz (fun _=>iT _) J fun b2=>bu J<|ai cz J aj J (ht J) (ht J)<|bh 5 J<|au<|ac ?_;refine am<|aE J<|zo J (bD lh eP J J)<|zo J (bm bA J J)<|zo J (IA (γ:=(fun y:(aG→af→Option (((List Int)×Bool)×aG))=>eX bl yH (d4 b) (fun(x:(List Int)×Bool)=>tT [tD oS x.1,tD rB x.2]) y)) (z:=fun _ _=>none) Gt (lr qo) Vs (fun _=>Fn) (.tail _ (.head _)) (ht J) (wX (ht J)))<|aE J<|zo J (kG J J)<|zo J (kG J J)<|bu J<|bu J<|au<|aw<|aE J<|aE J<|bz h fun t q_t h=>bX J J (fun hg=>bm cz J J) ?_
  obtain⟨r,h1t,h0t⟩:=og q_t
  have q_rg:=fun hb=>(h1t hb).1
  refine bX J J (fun hg=>aC Xo (RZ _ (q_rg hg)) ⟨(aS J hg),aT⟩) ?_
  obtain⟨r1,h1t⟩:=OR (fun hb=>(h1t hb).2)
  have q_r1g:=fun hb=>(h1t hb).1
  refine bX J J (fun hg=>aC Xp (R0 _ (q_r1g hg)) ⟨(aS J hg),aT⟩)<|zo J (cS (ht J) (fun hb=>(aS J hb)) (fun hb=>(h1t hb).2) h0t)<|bu J<|au ?_;refine Gl (Z:=fun ok ob1 l2 c3 l3 c4=>eK yld (bY yld tl) i e2 s1 ok ob1=some R) (Of:=fun ok ob1 l2 c3 l3 c4=>[e1,rn (CM (fun y:(aG→af→Option (((List Int)×Bool)×aG))=>eX bl yH (d4 b) yT y)) wV b1 none os7 JK,bx (rH bv [(1,aV l2 c3 ob1.kinds.length),(2,aV l3 c4 ob1.first.length)]) 123 b ob1,tip gG 42 l2 c3 ob1.kinds,tip cx 3 l3 c4 ob1.first]) (Gf:=fun ok ob1 l2 c3 l3 c4=>[(0,tV yv),(1,bt (rT (tV (aM b 0))) ()),(3,tV (uz b1)),(4,cb (i:Int)),(5,bt ah e2),(6,eX bl yH (d4 b) yT ((sU JK e2.Op).getD (fun _ _=>none))),(8,gq ok),(33,fc (ah) c.Logic.Nodes),(34,jV c.Logic.Nodes),(35,cb (i:Int))]) (fun ok ob1 l2 c3 l3 c4 h=>?_) (fun K=>?_)
  ·skip
   refine aw<|zo J (aU (show aZ _ _ _ mJ from jr))<|au ?_;refine BU (Z:=fun ok1 kinds ob2 l4 c5 l5 c6=>gS yld (bY yld tl) i s1 ok1 kinds ob2=some R) (Of:=fun ok1 kinds ob2 l4 c5 l5 c6=>[e1,rn (CM (fun y:(aG→af→Option (((List Int)×Bool)×aG))=>eX bl yH (d4 b) yT y)) wV b1 none os7 JK,bx (rH bv [(1,aV l4 c5 ob2.kinds.length),(2,aV l5 c6 ob2.first.length)]) 123 b ob2,tip gG 42 l4 c5 ob2.kinds,tip cx 3 l5 c6 ob2.first]) (Gf:=fun ok1 kinds ob2 l4 c5 l5 c6=>[(0,tV yv),(1,bt (rT (tV (aM b 0))) ()),(3,tV (uz b1)),(4,cb (i:Int)),(8,gq ok1),(10,dI kinds),(33,fc (ah) c.Logic.Nodes),(34,jV c.Logic.Nodes),(35,cb (i:Int))]) (fun ok1 kinds ob2 l4 c5 l5 c6 h=>?_) (fun K1=>?_)
   ·skip
    refine aw<|aE J<|aE J<|bX J J (fun hg=>cG J)<|bX J J (fun hg=>bU dc (aS J hg))<|bX J J (fun hg=>g9 (aS J hg) hI)<|zo J (mI J J)<|bu J<|au<|ac<|bz h fun l6 q_l6 h=>?_
    refine iK 8 [tc (tV (aM b 0)),tc (tV (aM b 0)),tc (tV (aM b 0)),tc (tV (aM b 1)),tc (tO gG l4 c5 ob2.kinds),tc (dI kinds),tc (fc (gG) ([kinds])),([7],fun s=>tO gG ((s.getD 0 nz).h 0).1 ((s.getD 0 nz).h 0).2 l6)] [false,false,false,false,false,false,false,true] [fun _=>[e1,rn (CM (fun y:(aG→af→Option (((List Int)×Bool)×aG))=>eX bl yH (d4 b) yT y)) wV b1 none os7 JK,bx (rH bv [(1,aV l4 c5 ob2.kinds.length),(2,aV l5 c6 ob2.first.length)]) 123 b ob2,tip gG 42 l4 c5 ob2.kinds,tip cx 3 l5 c6 ob2.first],fun sg=>[tip gG 42 ((sg 7).h 0).1 ((sg 7).h 0).2 l6,e1,rn (CM (fun y:(aG→af→Option (((List Int)×Bool)×aG))=>eX bl yH (d4 b) yT y)) wV b1 none os7 JK,bx (rH bv [(1,aV l4 c5 ob2.kinds.length),(2,aV l5 c6 ob2.first.length)]) 123 b ob2,tip cx 3 l5 c6 ob2.first]] J mixed J J J J J
     ⟨⟨[⟨1,fun _=>bt (rT (tV (aM b 0))) (),none⟩],_,0,1,J,⟨(fun _=>J),aT⟩,J,J,J,J,J,fun _ sg _ _=>aa J (lR lv (ht J))⟩,
     ⟨⟨[⟨1,fun _=>bt (rT (tV (aM b 0))) (),none⟩],_,0,0,J,⟨(fun _=>J),aT⟩,J,J,J,J,J,fun _ sg _ _=>aa J (lR lv (ht J))⟩,
     ⟨⟨[⟨84,fun _=>tV (aM b 0),some 1⟩],_,0,0,J,⟨(fun _=>J),aT⟩,J,J,J,J,J,fun _ sg _ _=>aa J (eJ (ht J))⟩,
     ⟨⟨[⟨85,fun _=>tV (aM b 0),some 2⟩],_,0,0,J,⟨(fun _=>J),aT⟩,J,J,J,J,J,fun _ sg _ _=>aa J (dy 1 oc J J J)⟩,
     ⟨⟨[⟨86,fun _=>tV (aM b 1),some 3⟩],_,0,0,J,⟨(fun _=>J),aT⟩,J,J,J,J,J,tU (fun sg=>aa J (eY wW J (.tail _ (.tail _ (.head _))) (.tail _ (.tail _ (.tail _ (.head _)))) (ht J)))⟩,
     ⟨⟨[⟨10,fun _=>tD oS kinds,none⟩],_,0,0,J,⟨(fun _=>J),aT⟩,J,J,J,J,J,fun _ sg _ _=>aa J (cG J)⟩,
     ⟨⟨[⟨88,fun _=>tD oS kinds,some 5⟩],_,0,0,J,⟨(fun _=>J),aT⟩,J,J,J,J,J,fun _ sg _ _=>aa J (aN (r:=oS) (ys:=[kinds]) (xs:=[.tmp 88]) uw cD J J J J J ⟨(ht J),aT⟩)⟩,
     ⟨⟨[⟨87,fun _=>tO oS l4 c5 ob2.kinds,some 4⟩,⟨89,fun _=>tD (fH oS) ([kinds]),some 6⟩],_,J,⟨(fun _=>J),(fun _=>J),aT⟩,J,J,J,fun sg=>bN J (EffOK.fr3 (jR cD J J J J uw J (ht J) (ht J) q_l6))⟩,
     aT⟩⟩⟩⟩⟩⟩⟩⟩ (fun sg=>?_)
    refine(show RG _ _ _ _ [tip gG 42 ((sg 7).h 0).1 ((sg 7).h 0).2 l6,e1,rn (CM (fun y:(aG→af→Option (((List Int)×Bool)×aG))=>eX bl yH (d4 b) yT y)) wV b1 none os7 JK,bx (rH bv [(1,aV l4 c5 ob2.kinds.length),(2,aV l5 c6 ob2.first.length)]) 123 b ob2,tip cx 3 l5 c6 ob2.first] _ from ?_);refine zo J (eJ (ht J))<|zo J (dy 1 oc J J J)<|u7 (EffOK.fr3 (um (hs' :=[(1,aV ((sg 7).h 0).1 ((sg 7).h 0).2 l6.length),(2,aV l5 c6 ob2.first.length)]) (u:=aV ((sg 7).h 0).1 ((sg 7).h 0).2 l6.length) wW J J GG J ⟨.inl ⟨J,J,J⟩,.inr ⟨J,J⟩,aT⟩ (ht J) (kT (ht J)) (Bl (ht J)))) fun i1=>?_;refine(show RG _ _ _ _ [bx (rH bv [(1,aV ((sg 7).h 0).1 ((sg 7).h 0).2 l6.length),(2,aV l5 c6 ob2.first.length)]) 123 b ({ob2 with kinds:=l6}:aG),tip gG 42 ((sg 7).h 0).1 ((sg 7).h 0).2 l6,e1,rn (CM (fun y:(aG→af→Option (((List Int)×Bool)×aG))=>eX bl yH (d4 b) yT y)) wV b1 none os7 JK,tip cx 3 l5 c6 ob2.first] _ from ?_);refine au<|aw<|aE J<|aE J<|aE J<|c0<|bz h fun r2 q_r2 h=>Ew hy he1 q_r2 (ht J) ⟨(ht J),(ht J),aT⟩ J fun e3 he2=>zo J (dh (ht J))<|aE J<|ci J J (fun hg=>cG J)<|ci J J (fun hg=>dh (aS J hg))<|zo J (nW J J)<|au<|cE h J (fun h=>?_) (fun h=>?_)
    ·refine ak ?_;refine ay (M (M (ay ?_)));refine bF<|aL<|bF<|bF<|bF<|bF ?_;cases so h;exact JB J he2 (Km [(((sg 7).h 0).1,((sg 7).h 0).2),(l5,c6)]) J
    ·refine bk<|an<|aq<|am<|zo rfl (nh (dm hx hN) rfl)<|aE rfl<|aJ<|dq<|bF<|bF<|dq<|dq ?_;exact be (aP (ih (i+1) e3 r2.2 ({ob2 with kinds:=l6}:aG) ((sg 7).h 0).1 ((sg 7).h 0).2 l5 c6 ⟨dl hx,⟨he2,h⟩⟩) (bg J))
   ·skip
    refine aw<|aE J<|au<|cE h J (fun h=>?_) (fun h=>?_)
    ·refine am<|aE J<|zo J (bm cz J J)<|bz h fun r3 q_r3 h=>nw (EffOK.fr4 (EffOK.fr4 (EffOK.fr4 (AR (args:=yH) (Ob:=d4 b) (res:=yT) (f:=((sU JK e2.Op).getD (fun _ _=>none))) (x:=ob1) (y:=((e2):af)) (R:=r3) (i:=(Km [(l2,c3),(l3,c4)])) (xs:=[.tmp 73]) _ J (ht J) q_r3 ⟨(ht J),aT⟩ (fun _=>J))))) J fun i2=>?_;refine(show RG _ _ _ _ [bx (rH bv [(1,aV (i2.h 0).1 (i2.h 0).2 r3.2.kinds.length),(2,aV (i2.h 1).1 (i2.h 1).2 r3.2.first.length)]) 123 b r3.2,tip gG 42 (i2.h 0).1 (i2.h 0).2 r3.2.kinds,tip cx 3 (i2.h 1).1 (i2.h 1).2 r3.2.first,e1,rn (CM (fun y:(aG→af→Option (((List Int)×Bool)×aG))=>eX bl yH (d4 b) yT y)) wV b1 none os7 JK] ((74,tT [dI r3.1.1,gq r3.1.2])::_)from ?_);refine aE J<|zo J (kG J J)<|zo J (kG J J)<|bu J<|bu J<|aJ<|aD<|aD<|aD<|dq<|dq ?_;exact bJ (K1 r3.1.2 r3.1.1 r3.2 (i2.h 0).1 (i2.h 0).2 (i2.h 1).1 (i2.h 1).2 h) (bg J)
    ·refine bk ?_;exact bJ (K1 ok ([]) ob1 l2 c3 l3 c4 h) (bg J)
  ·skip
   refine aw<|aE J<|au<|cE h J (fun h=>?_) (fun h=>?_)
   ·refine aw<|zo J (dB)<|au<|aw<|zo J (lR lv (ht J))<|aE J<|bz h fun r4 q_r4 h=>nw (EffOK.fr4 (EffOK.fr4 (EffOK.fr4 (iI (xs:=[.tmp 55,.tmp 56]) (ts:=[tV (aM b 0),cb (i:Int)]) (d4 b ob (Km [(l,c1),(l1,c2)])) _ J Xn (UN b (Km [(l,c1),(l1,c2)]) ob _ q_r4) ⟨(ht J),(ht J),aT⟩ (fun _=>J))))) J fun i3=>?_;refine(show RG _ _ _ _ [bx (rH bv [(1,aV l c1 ob.kinds.length),(2,aV l1 c2 ob.first.length)]) 123 b ob,tip gG 42 l c1 ob.kinds,tip cx 3 l1 c2 ob.first,e1,rn (CM (fun y:(aG→af→Option (((List Int)×Bool)×aG))=>eX bl yH (d4 b) yT y)) wV b1 none os7 JK] ((57,tT [cb r4.1,gq r4.2])::_)from ?_);refine aE J<|zo J (kG J J)<|zo J (kG J J)<|bu J<|bu J<|au<|bz h fun l7 q_l7 h=>?_
    refine iK 8 [tc (tV (aM b 0)),tc (tV (aM b 0)),tc (tV (aM b 0)),tc (tV (aM b 2)),tc (tO cx l1 c2 ob.first),tc (cb r4.1),tc (dI ([r4.1])),([7],fun s=>tO cx ((s.getD 0 nz).h 0).1 ((s.getD 0 nz).h 0).2 l7)] [false,false,false,false,false,false,false,true] [fun _=>[bx (rH bv [(1,aV l c1 ob.kinds.length),(2,aV l1 c2 ob.first.length)]) 123 b ob,tip gG 42 l c1 ob.kinds,tip cx 3 l1 c2 ob.first,e1,rn (CM (fun y:(aG→af→Option (((List Int)×Bool)×aG))=>eX bl yH (d4 b) yT y)) wV b1 none os7 JK],fun sg1=>[tip cx 3 ((sg1 7).h 0).1 ((sg1 7).h 0).2 l7,bx (rH bv [(1,aV l c1 ob.kinds.length),(2,aV l1 c2 ob.first.length)]) 123 b ob,tip gG 42 l c1 ob.kinds,e1,rn (CM (fun y:(aG→af→Option (((List Int)×Bool)×aG))=>eX bl yH (d4 b) yT y)) wV b1 none os7 JK]] J mixed J J J J J
     ⟨⟨[⟨1,fun _=>bt (rT (tV (aM b 0))) (),none⟩],_,0,1,J,⟨(fun _=>J),aT⟩,J,J,J,J,J,fun _ sg1 _ _=>aa J (lR lv (ht J))⟩,
     ⟨⟨[⟨1,fun _=>bt (rT (tV (aM b 0))) (),none⟩],_,0,0,J,⟨(fun _=>J),aT⟩,J,J,J,J,J,fun _ sg1 _ _=>aa J (lR lv (ht J))⟩,
     ⟨⟨[⟨61,fun _=>tV (aM b 0),some 1⟩],_,0,0,J,⟨(fun _=>J),aT⟩,J,J,J,J,J,fun _ sg1 _ _=>aa J (eJ (ht J))⟩,
     ⟨⟨[⟨62,fun _=>tV (aM b 0),some 2⟩],_,0,0,J,⟨(fun _=>J),aT⟩,J,J,J,J,J,fun _ sg1 _ _=>aa J (dy 2 uZ J J J)⟩,
     ⟨⟨[⟨63,fun _=>tV (aM b 2),some 3⟩],_,0,0,J,⟨(fun _=>J),aT⟩,J,J,J,J,J,tU (fun sg1=>aa J (eY cD J (.head _) (.tail _ (.tail _ (.head _))) (ht J)))⟩,
     ⟨⟨[⟨9,fun _=>tD cx r4.1,none⟩],_,0,0,J,⟨(fun _=>J),aT⟩,J,J,J,J,J,fun _ sg1 _ _=>aa J (cG J)⟩,
     ⟨⟨[⟨65,fun _=>tD cx r4.1,some 5⟩],_,0,0,J,⟨(fun _=>J),aT⟩,J,J,J,J,J,fun _ sg1 _ _=>aa J (aN (r:=cx) (ys:=[r4.1]) (xs:=[.tmp 65]) dc bA J J J J J ⟨(ht J),aT⟩)⟩,
     ⟨⟨[⟨64,fun _=>tO cx l1 c2 ob.first,some 4⟩,⟨66,fun _=>tD oS ([r4.1]),some 6⟩],_,J,⟨(fun _=>J),(fun _=>J),aT⟩,J,J,J,fun sg1=>bN J (EffOK.fr2 (jR bA J J J J dc J (ht J) (ht J) q_l7))⟩,
     aT⟩⟩⟩⟩⟩⟩⟩⟩ (fun sg1=>?_)
    refine(show RG _ _ _ _ [tip cx 3 ((sg1 7).h 0).1 ((sg1 7).h 0).2 l7,bx (rH bv [(1,aV l c1 ob.kinds.length),(2,aV l1 c2 ob.first.length)]) 123 b ob,tip gG 42 l c1 ob.kinds,e1,rn (CM (fun y:(aG→af→Option (((List Int)×Bool)×aG))=>eX bl yH (d4 b) yT y)) wV b1 none os7 JK] _ from ?_);refine zo J (eJ (ht J))<|zo J (dy 2 uZ J J J)<|u7 (EffOK.fr1 (um (hs' :=[(1,aV l c1 ob.kinds.length),(2,aV ((sg1 7).h 0).1 ((sg1 7).h 0).2 l7.length)]) (u:=aV ((sg1 7).h 0).1 ((sg1 7).h 0).2 l7.length) cD J J GF J ⟨.inr ⟨J,J⟩,.inl ⟨J,J,J⟩,aT⟩ (ht J) (kT (ht J)) (Bl (ht J)))) fun i4=>?_;refine(show RG _ _ _ _ [bx (rH bv [(1,aV l c1 ob.kinds.length),(2,aV ((sg1 7).h 0).1 ((sg1 7).h 0).2 l7.length)]) 123 b ({ob with first:=l7}:aG),tip cx 3 ((sg1 7).h 0).1 ((sg1 7).h 0).2 l7,tip gG 42 l c1 ob.kinds,e1,rn (CM (fun y:(aG→af→Option (((List Int)×Bool)×aG))=>eX bl yH (d4 b) yT y)) wV b1 none os7 JK] _ from ?_);refine aJ<|bE<|aD<|aD<|dq<|dq ?_;exact bJ (K r4.2 ({ob with first:=l7}:aG) l c1 ((sg1 7).h 0).1 ((sg1 7).h 0).2 h) (bg J)
   ·refine bk ?_;exact bJ (K t ob l c1 l1 c2 h) (bg J)

end Go.Proofs.YtnmjbolollcokaaGreatDoor

