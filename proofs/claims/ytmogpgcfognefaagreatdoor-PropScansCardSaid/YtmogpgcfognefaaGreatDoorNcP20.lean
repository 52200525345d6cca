/- cd of this claim: P20. -/
import Derived.Test.YtmogpgcfognefaaGreatDoorNcT
import Derived.Test.YtmogpgcfognefaaGreatDoorNcP19
set_option linter.all false
namespace Go.Proofs.YtmogpgcfognefaaGreatDoor
open Go
set_option maxRecDepth 100000

theorem NT(b:Nat)(register:Int)(cA:(List Int))(c:Int){R:Int}(h:o3 register cA c=some R):eV aM 180 [tD (rI .u8) c,tV (aF b 0),bp zn cA] [bx oU 85 b register] (fun i:OI=>tT []) (fun i=>[bx oU 85 b R]):=by
 refine eV.of Tryz.func180 J J J fun w0 S0=>bF h fun e q_e h=>?_
 refine oP 9 (ts:=[tD oU register,tD oU ((register).fdiv (2^(min (Int.toNat (8:Int)) IntKind.u32.bits))),tD oU register,tD (rI .u8) (IntKind.u8.wrap register),tD (rI .u8) c,tD (rI .u8) (mp .xor .u8 (IntKind.u8.wrap register) c),bp oU e,tD oU e,tD oU (mp .xor .u32 ((register).fdiv (2^(min (Int.toNat (8:Int)) IntKind.u32.bits))) e)]) mixed J J J
  ⟨gF 1 J J J (bk nO J J cO (.head _) (ht J)),
  ⟨cL 4 0 J J J (Eo (ht J) hI (by decide)),
  ⟨gF 1 J J J (bk nO J J cO (.head _) (ht J)),
  ⟨cL 6 2 J J J (kL Ci Gm (ht J)),
  ⟨gF 0 J J J (cz J),
  ⟨eu 7 3 8 4 J J J J (Bq (ht J) (ht J)),
  ⟨JM 2 9 5 J J J J (zD A3 nO J (ht J) (ht J) q_e),
  ⟨cL 10 6 J J J (bw nO J J),
  ⟨eu 5 1 11 7 J J J J (Bq (ht J) (ht J)),
  be⟩⟩⟩⟩⟩⟩⟩⟩⟩ ?_
 refine aE nO J ay J (ht J) (ht J)<|aH ?_;cases so h;exact HK J (oi none 0) J J

theorem Lv(b:(List Int)){R:Int}(h:si b=some R):aW aM 114 [d6 ((rI .u8)) b] (tD oU R):=by
 refine aW.of Tryz.func114 J J J fun w0 S0=>au<|zo J (dA)<|ap<|au<|bF h fun r q_r h=>zo J (aJ Qj (KT q_r) trivial)<|bc (r:=zn) (x:=(List.replicate 256 (0:Int))) zZ (fun _=>uZ (r:=oU) 256 (fun _=>J) _) J fun b1=>aE zZ J ay J (ht J) (ht J)<|aV 3 J<|ap<|au<|bc (r:=oU) (x:=(0:Int)) nO (fun _=>J) J fun b2=>aE nO J ay J (ht J) hI<|ap<|au<|zo J (CU (cts:=[tV (aF b2 0),bp zn r]) (caps:=[.tmp 4,.tmp 3]) ⟨(ht J),(ht J),be⟩) ?_;refine bo J<|ap<|ae<|au<|ax J<|zo J (gJ A4 J)<|zo J (bg hI)<|ap<|av<|aP (k:=10) J fun hN=>bu ?_;refine aG (kB (Z:=fun ls i register=>(b.drop i=ls)∧kH r ls register=some R) (Of:=fun _ i register=>[bx oU 85 b2 register]) (Gf:=fun _ i register=>[(4,tV (aF b2 0)),(5,tC 180 [tV (aF b2 0),bp zn r]),(10,d6 ((rI .u8)) b),(11,gR b),(12,bQ (i:Int))]) (fun i register h=>?_) (fun e tl ih i register h=>?_) b 0 (4294967295:Int) ⟨J,h⟩) (aX J)
 ·obtain⟨hx,h⟩:=h
  refine aq<|au<|zo J (eD J J)<|ap<|ae<|bn (ht J) (cW hx)<|aY ?_;refine ac (ac (aC ?_));refine am<|au<|zo rfl (bk nO rfl rfl cO (.head _) (ht rfl))<|zo rfl (M4 (ht rfl))<|bo rfl<|ap<|al<|bv ?_;cases so h;exact aB J J
 ·obtain⟨hx,h⟩:=h
  refine aq<|au<|zo J (eD J J)<|ap<|ae<|bm (ht J) (cR hx)<|dz<|ae<|av<|au<|zo J (im A4 JS J J J (cS hx))<|zo J (bw JS J J)<|bo J<|ap<|ai<|ax J<|ax J<|bF h fun r1 q_r1 h=>vM (AJ (xs:=[.tmp 17]) (ts:=[tD (rI .u8) e]) (cts:=[tV (aF b2 0),bp zn r]) (post:=fun i=>[bx oU 85 b2 r1]) [bx oU 85 b2 register] [] J Qi (NT b2 _ _ _ q_r1) (ht J) ⟨(ht J),be⟩ (fun _=>J)) J fun i1=>?_;refine(show RG _ _ _ _ [bx oU 85 b2 r1] _ from ?_);refine aH<|ak<|am<|ai<|zo rfl (jN (cy hx hN) rfl)<|ax rfl<|aH ?_;exact aO (aG (ih (i+1) r1 ⟨cx hx,h⟩) (aX J))

theorem NF(r:(List aQ)){R:Int}(h:ul r=some R):aW aM 63 [d6 (bf) r] (tD oU R):=by
 refine aW.of Tryz.func63 J J J fun w0 S0=>au<|zo J (dA)<|ap<|au<|ci false (rI .u8) 5<|zo J (a8 rQ)<|ap<|ae<|au<|ax J<|zo J (gJ rn J)<|zo J (bg hI)<|ap<|av<|aP (k:=6) J fun hN=>bu<|vN ?_;refine u6 3 J ?_;refine aG (ld (Z:=fun ls i b l c=>(r.drop i=ls)∧lH ls b=some R) (Of:=fun _ i b l c=>[fA (rI .u8) 5 l c b]) (Gf:=fun _ i b l c=>[(3,tO (rI .u8) l c b),(6,d6 (bf) r),(7,gR r),(8,bQ (i:Int))]) (fun i b l c h=>?_) (fun e tl ih i b l c h=>?_) r 0 lS none 0 ⟨J,h⟩) (aX J)
 ·obtain⟨hx,h⟩:=h
  refine aq<|au<|zo J (eD J J)<|ap<|ae<|bn (ht J) (cW hx)<|aY ?_;refine ac (ac (aC ?_));refine am<|au<|ax rfl<|bF h fun r1 q_r1 h=>zo J (aJ QP (Lv _ q_r1) ⟨(rx (ht J)),be⟩)<|bo J<|ap<|al<|bv ?_;cases so h;exact aB J J
 ·obtain⟨hx,h⟩:=h
  refine aq<|au<|zo J (eD J J)<|ap<|ae<|bm (ht J) (cR hx)<|dz<|ae<|av<|au<|zo J (im rn kF J J J (cS hx))<|zo J (bw kF J J)<|bc (r:=bf) (x:=xv) kF (fun _=>oc _) J fun b1=>aE kF J ay J (ht J) (ht J)<|aV 5 J<|ap<|au<|ax J ?_;refine zo J (bY qJ lA J J)<|zo J (bw bK J J)<|zo J (kL iF Gm (ht J))<|zo J (ba (r:=(rI .u8)) (ys:=[(IntKind.u8.wrap e.Kind)]) (xs:=[.tmp 15]) A4 JS J J J J J ⟨(ht J),be⟩)<|bF h fun b2 q_b2 h=>tU JS J J J J A4 J J (ht J) (ht J) q_b2 fun l1 c1=>bo J<|ap<|ae<|bF h fun r2 q_r2 h=>?_
  refine mt 7 [tc (tO (rI .u8) l1 c1 b2),tc (bp bV e.N),tc (bQ e.N),tc (tD Cj (IntKind.u64.wrap e.N)),([4],fun s=>tO (rI .u8) ((s.getD 0 sR).h 0).1 ((s.getD 0 sR).h 0).2 r2),tc (bp Cj e.U),tc (tD Cj e.U)] [false,false,false,false,true,false,false] [fun _=>[fA (rI .u8) 5 l1 c1 b2],fun sg=>[fA (rI .u8) 5 ((sg 4).h 0).1 ((sg 4).h 0).2 r2]] J mixed J J J J J
   ⟨⟨[⟨3,fun _=>tO (rI .u8) l1 c1 b2,none⟩],_,0,0,J,⟨(fun _=>J),be⟩,J,J,J,J,J,fun _ sg _ _=>ah J (cz J)⟩,
   ⟨⟨[⟨5,fun _=>bp bf e,none⟩],_,0,0,J,⟨(fun _=>J),be⟩,J,J,J,J,J,fun _ sg _ _=>ah J (bY yI qF J J)⟩,
   ⟨⟨[⟨19,fun _=>bp bV e.N,some 1⟩],_,0,0,J,⟨(fun _=>J),be⟩,J,J,J,J,J,fun _ sg _ _=>ah J (bw Og J J)⟩,
   ⟨⟨[⟨20,fun _=>tD bV e.N,some 2⟩],_,0,0,J,⟨(fun _=>J),be⟩,J,J,J,J,J,fun _ sg _ _=>ah J (kL Tryz.underlying2 E7 (ht J))⟩,
   ⟨⟨[⟨18,fun _=>tO (rI .u8) l1 c1 b2,some 0⟩,⟨21,fun _=>tD Cj (IntKind.u64.wrap e.N),some 3⟩],_,J,⟨(fun _=>J),(fun _=>J),be⟩,J,J,J,fun sg=>eG J (vI (xs:=[.tmp 18,.tmp 21]) (ts:=[tV (an l1 c1 b2.length),tD Cj (IntKind.u64.wrap e.N)]) [_] _ J Mx (IY _ _ _ _ q_r2) ⟨(D0 (ht J)),(ht J),be⟩ (fun _=>J))⟩,
   ⟨⟨[⟨5,fun _=>bp bf e,none⟩],_,0,1,J,⟨(fun _=>J),be⟩,J,J,J,J,J,fun _ sg _ _=>ah J (bY IM yA J J)⟩,
   ⟨⟨[⟨23,fun _=>bp Cj e.U,some 5⟩],_,0,1,J,⟨(fun _=>J),be⟩,J,J,J,J,J,fun _ sg _ _=>ah J (bw MR J J)⟩,
   be⟩⟩⟩⟩⟩⟩⟩ (fun sg=>?_)
  refine(show RG _ _ _ _ [fA (rI .u8) 5 ((sg 4).h 0).1 ((sg 4).h 0).2 r2] _ from ?_);refine bF h fun r3 q_r3 h=>y6 [fA (rI .u8) 5 ((sg 4).h 0).1 ((sg 4).h 0).2 r2] _ J Mx (IY (((sg 4).h 0).1) (((sg 4).h 0).2) _ _ q_r3) ⟨(D0 (ht J)),(ht J),be⟩ J fun i1=>?_;refine(show RG _ _ _ _ [fA (rI .u8) 5 (i1.h 0).1 (i1.h 0).2 r3] ((25,tO (rI .u8) (i1.h 0).1 (i1.h 0).2 r3)::_)from ?_);refine bo J<|ap<|bF h fun l3 q_l3 h=>?_
  refine mt 9 [tc (tO (rI .u8) (i1.h 0).1 (i1.h 0).2 r3),tc (bp rS e.S),tc (tD rS e.S),tc (gR e.S),tc (tD (rI .u8) (IntKind.u8.wrap (e.S.length:Int))),tc (d6 ((rI .u8)) ([(IntKind.u8.wrap (e.S.length:Int))])),([6],fun s=>tO (rI .u8) ((s.getD 0 sR).h 0).1 ((s.getD 0 sR).h 0).2 l3),tc (bp rS e.S),tc (tD rS e.S)] [false,false,false,false,false,false,true,false,false] [fun _=>[fA (rI .u8) 5 (i1.h 0).1 (i1.h 0).2 r3],fun sg1=>[fA (rI .u8) 5 ((sg1 6).h 0).1 ((sg1 6).h 0).2 l3]] J mixed J J J J J
   ⟨⟨[⟨3,fun _=>tO (rI .u8) (i1.h 0).1 (i1.h 0).2 r3,none⟩],_,0,0,J,⟨(fun _=>J),be⟩,J,J,J,J,J,fun _ sg1 _ _=>ah J (cz J)⟩,
   ⟨⟨[⟨5,fun _=>bp bf e,none⟩],_,0,0,J,⟨(fun _=>J),be⟩,J,J,J,J,J,fun _ sg1 _ _=>ah J (bY tL mR J J)⟩,
   ⟨⟨[⟨27,fun _=>bp rS e.S,some 1⟩],_,0,0,J,⟨(fun _=>J),be⟩,J,J,J,J,J,fun _ sg1 _ _=>ah J (bw Cr J J)⟩,
   ⟨⟨[⟨28,fun _=>tD rS e.S,some 2⟩],_,0,0,J,⟨(fun _=>J),be⟩,J,J,J,J,J,fun _ sg1 _ _=>ah J (wV iU (ht J))⟩,
   ⟨⟨[⟨29,fun _=>tD bV (e.S.length:Int),some 3⟩],_,0,0,J,⟨(fun _=>J),be⟩,J,J,J,J,J,fun _ sg1 _ _=>ah J (kL iF Gm (ht J))⟩,
   ⟨⟨[⟨30,fun _=>tD (rI .u8) (IntKind.u8.wrap (e.S.length:Int)),some 4⟩],_,0,0,J,⟨(fun _=>J),be⟩,J,J,J,J,J,fun _ sg1 _ _=>ah J (ba (r:=(rI .u8)) (ys:=[(IntKind.u8.wrap (e.S.length:Int))]) (xs:=[.tmp 30]) A4 JS J J J J J ⟨(ht J),be⟩)⟩,
   ⟨⟨[⟨26,fun _=>tO (rI .u8) (i1.h 0).1 (i1.h 0).2 r3,some 0⟩,⟨31,fun _=>tD (dR (rI .u8)) ([(IntKind.u8.wrap (e.S.length:Int))]),some 5⟩],_,J,⟨(fun _=>J),(fun _=>J),be⟩,J,J,J,fun sg1=>eG J (wq JS J J J J A4 J (ht J) (ht J) q_l3)⟩,
   ⟨⟨[⟨5,fun _=>bp bf e,none⟩],_,0,1,J,⟨(fun _=>J),be⟩,J,J,J,J,J,fun _ sg1 _ _=>ah J (bY tL mR J J)⟩,
   ⟨⟨[⟨33,fun _=>bp rS e.S,some 7⟩],_,0,1,J,⟨(fun _=>J),be⟩,J,J,J,J,J,fun _ sg1 _ _=>ah J (bw Cr J J)⟩,
   be⟩⟩⟩⟩⟩⟩⟩⟩⟩ (fun sg1=>?_)
  refine(show RG _ _ _ _ [fA (rI .u8) 5 ((sg1 6).h 0).1 ((sg1 6).h 0).2 l3] _ from ?_);refine bF h fun b3 q_b3 h=>Dy JS J J A4 iU J (ht J) (ht J) q_b3 fun l4 c3=>bo J<|aH<|ak<|am<|ai<|zo rfl (jN (cy hx hN) rfl)<|ax rfl<|aH ?_;exact aO (aG (ih (i+1) b3 l4 c3 ⟨cx hx,h⟩) (aX J))

theorem IR(r:(List aQ))(columns:(List Int)){R:Int×Int}(h:pR r columns=some R):aW aM 27 [d6 (bf) r,kC columns] (tT [tD oU R.1,bQ R.2]):=by
 refine aW.of Tryz.func27 J J J fun w0 S0=>au<|zo J (dA)<|zo J (dA)<|ap<|au<|ax J<|ax J<|bF h fun r1 q_r1 h=>zo J (aJ Sb (NH _ _ q_r1) ⟨(ht J),(ht J),be⟩)<|ax J<|zo J (lg J J)<|zo J (lg J J)<|bo J<|bo J<|ap<|ae<|au<|ax J ?_;refine zo J (qZ J)<|ap<|dh h J (fun h=>?_) (fun h=>?_)
 ·refine au<|ax J<|zo J (dA)<|bo J<|ap<|al<|aa ?_;cases so h;exact d5 J J J
 ·refine dz<|au<|ax J<|bF h fun r2 q_r2 h=>zo J (aJ Sa (NF _ q_r2) ⟨(ht J),be⟩)<|bo J<|zo J (dA)<|ap<|al ?_;cases so h;exact d5 J J J

theorem NI(t:bj)(r:(List aQ))(nodes:Int){R:Int}(h:qx t r nodes=some R):aW aM 61 [tD bU t,d6 (bf) r,bQ nodes] (bQ R):=by
 refine aW.of Tryz.func61 J J J fun w0 S0=>au<|zo J (kZ J)<|zo J (dA)<|ap<|ae<|au<|zo J (bY tM mS J J)<|zo J (bw bZ J J)<|zo J (gJ dd J)<|zo J (jk J)<|ap<|dh h J (fun h=>?_) (fun h=>?_)
 ·refine au<|zo J (dA)<|ap<|al<|aa ?_;cases so h;exact aB J J
 ·refine dz<|au<|ax J<|zo J (bY tM mS J J)<|zo J (bw bZ J J)<|bF h fun r1 q_r1 h=>zo J (aJ PF (IR _ _ q_r1) ⟨(ht J),(ht J),be⟩)<|ax J<|zo J (lg J J)<|zo J (lg J J)<|bo J<|bo J<|ap<|au<|ax J<|ax J<|zo J (kL iF Ci (ht J))<|bF h fun u q_u h=>zo J (Ep (ht J) (ht J) (Bt q_u))<|zo J (kL Ci iF (ht J)) ?_;refine zo J (kw (ht J) hI)<|bo J<|ap<|al ?_;cases so h;exact aB J J

theorem NP(c:aT)(cA:Int)(r:(List aQ))(nodes:Int){R:Int×Int}(h:nt c cA r nodes=some R):aW aM 26 [tD bP c,bQ cA,d6 (bf) r,bQ nodes] (tT [bQ R.1,bQ R.2]):=by
 refine aW.of Tryz.func26 J J J fun w0 S0=>au<|zo J (kZ J)<|zo J (dA)<|zo J (dA)<|ap<|ae<|au<|zo J (bw kl J J)<|bF h fun r1 q_r1 h=>zo J (aJ N5 (EJ _ q_r1) ⟨(ht J),be⟩)<|bo J<|ap<|au<|ax J<|zo J (qZ J)<|ap<|dh h J (fun h=>?_) (fun h=>?_)
 ·refine au<|ax J<|zo J (dA)<|bo J<|ap<|al<|aa ?_;cases so h;exact d5 J J J
 ·refine dz<|ae<|au<|ax J<|zo J (ep (ht J) hI)<|ax J<|cw J J (fun hg=>cz J)<|cw J J (fun hg=>bY j7 dH J J)<|cw J J (fun hg=>aL ql J J (aI J hg))<|cw J J (fun hg=>bR mw (aI J hg))<|cw J J (fun hg=>dG (aI J hg) (aI J hg))<|zo J (oQ J J)<|ax J<|cw J J (fun hg=>cz J)<|cw J J (fun hg=>ep (aI J hg) hI)<|zo J (oQ J J)<|ax J<|cw J J (fun hg=>cz J)<|cw J J (fun hg=>fG (aI J hg) hI)<|zo J (oQ J J)<|ax J<|bF h fun t q_t h=>?_;refine cw J J (fun hg=>bY j7 dH J J)<|cw J J (fun hg=>aL ql J J (aI J hg))<|cw J J (fun hg=>cz J) ?_
  obtain⟨e,h1t,h0t⟩:=og q_t
  have q_eg:=fun hb=>(h1t hb).1
  refine cw J J (fun hg=>b9 mw kG J (aI J hg) (aI J hg) (q_eg hg))<|cw J J (fun hg=>aL kG J J (aI J hg))<|cw J J (fun hg=>cz J) ?_
  obtain⟨r2,h1t⟩:=J6 (fun hb=>(h1t hb).2)
  have q_r2g:=fun hb=>(h1t hb).1
  refine cw J J (fun hg=>aJ Sd (NJ _ _ (q_r2g hg)) ⟨(aI J hg),(aI J hg),be⟩)<|cw J J (fun hg=>dn (aI J hg))<|zo J (dV (ht J) (fun hb=>(aI J (mz hb))) (fun hb=>(h1t hb).2) h0t)<|ap<|dh h J (fun h=>?_) (fun h=>?_)
  ·refine au<|zo J (dA)<|zo J (dA)<|ap<|al<|aa ?_;cases so h;exact d5 J J J
  ·refine dz<|au<|zo J (bY j7 dH J J)<|zo J (bw ql J J)<|ax J<|bF h fun e1 q_e1 h=>zo J (im mw kG J J J q_e1)<|zo J (bw kG J J)<|ax J<|ax J<|bF h fun r3 q_r3 h=>zo J (aJ Sc (NI _ _ _ q_r3) ⟨(ht J),(ht J),(ht J),be⟩)<|bo J<|zo J (dA)<|ap<|al ?_;cases so h;exact d5 J J J

theorem Pt(p:aT)(cA:Int)(rows:(List (List aQ))){R:Bool}(h:li p cA rows=some R):aW aM 6 [tD bP p,bQ cA,d6 (od) rows] (gu R):=by
 refine aW.of Tryz.func6 J J J fun w0 S0=>au<|zo J (kZ J)<|zo J (eL)<|ap<|ae<|au<|bF h fun r q_r h=>zo J (aJ cb8 (Pk q_r) trivial)<|zo J (dn (ht J))<|ap<|dh h J (fun h=>?_) (fun h=>?_)
 ·refine au<|zo J (eL)<|ap<|al<|aa ?_;cases so h;exact aB J J
 ·refine dz<|au<|zo J (bw kl J J)<|bF h fun r1 q_r1 h=>zo J (aJ cb9 (Pf _ q_r1) ⟨(ht J),be⟩)<|bc (r:=bP) (x:=vk) kl (fun _=>jt _) J fun b=>aE kl J ay J (ht J) (ht J)<|aV 7 J<|ap<|ae<|au<|zo J (bY j7 dH J J)<|zo J (bw ql J J)<|zo J (gJ mw J)<|zo J (jk J)<|ap<|dh h J (fun h=>?_) (fun h=>?_)
  ·refine au<|zo J (eL)<|ap<|al<|aa ?_;cases so h;exact aB J J
  ·refine dz<|au<|ax J<|zo J (kL iF HR (ht J))<|zo J (bY j7 dH J J)<|zo J (bw ql J J)<|zo J (gJ mw J)<|zo J (kL iF HR (ht J))<|bF h fun u q_u h=>zo J (Ep (ht J) (ht J) (Bt q_u))<|zo J (kL HR iF (ht J))<|bo J<|ap<|au<|ci false bV 3<|zo J (a8 rQ)<|ap<|ae<|ae ?_;refine ai<|zo J (bY j7 dH J J)<|zo J (bw ql J J)<|ax J<|bF h fun e q_e h=>zo J (im mw kG J J J q_e)<|zo J (bY pD jz J J)<|zo J (bw zr J J)<|zo J (gJ pw J)<|zo J (bg hI)<|ap<|av<|aP (k:=41) J fun hN=>bu ?_;refine aG (ld (Z:=fun ls i kinds l c=>(e.Columns.drop i=ls)∧fS cA rows r1 ls kinds=some R) (Of:=fun _ i kinds l c=>[cC bV 3 l c kinds]) (Gf:=fun _ i kinds l c=>[(1,bQ (IntKind.i64.wrap (((IntKind.u64.wrap cA)).tmod (IntKind.u64.wrap (r1.Tables.length:Int))))),(2,d6 (od) rows),(7,bp bP r1),(8,nJ l c kinds),(41,d6 (bO) e.Columns),(42,gR e.Columns),(43,bQ (i:Int))]) (fun i kinds l c h=>?_) (fun e1 tl ih i kinds l c h=>?_) e.Columns 0 lS none 0 ⟨J,h⟩) (aX J)
   ·obtain⟨hx,h⟩:=h
    refine aq<|au<|zo J (eD J J)<|ap<|ae<|bn (ht J) (cW hx)<|aY ?_;refine ac (ac (aC ?_));refine am<|ae<|HG<|DE 8 rfl<|bF h fun r2 q_r2 h=>bF h fun r3 q_r3 h=>?_
    refine eb (ts:=[_,_,_,_,_,_,_,_,_,_,_,_,_]) mixed J J
     ⟨gF 1 J J J (cz J),
     ⟨gF 8 J J J (cz J),
     ⟨eu 54 0 55 1 J J J J (cE (y:=(⟨(1:Int),my,my,(IntKind.i64.wrap (((IntKind.u64.wrap cA)).tmod (IntKind.u64.wrap (r1.Tables.length:Int)))),kinds,false,tm,[],[],[],[],(0:Int)⟩:aZ)) eM EB eK (⟨_,_,_,_,_,J,ot,J,hI,⟨_,_,_,_,_,J,oq,J,hI,⟨_,_,_,_,_,J,oo,J,hI,⟨_,_,_,_,_,J,D7,J,(ht J),⟨_,_,_,_,_,J,qp,J,(rx (ht J)),J⟩⟩⟩⟩⟩)),
     ⟨cL 56 2 J J J (ba (r:=aS) (ys:=[(⟨(1:Int),my,my,(IntKind.i64.wrap (((IntKind.u64.wrap cA)).tmod (IntKind.u64.wrap (r1.Tables.length:Int)))),kinds,false,tm,[],[],[],[],(0:Int)⟩:aZ)]) (xs:=[.tmp 56]) n9 eM J J J J J ⟨(ht J),be⟩),
     ⟨gF 8 J J J (cz J),
     ⟨eu 57 3 58 4 J J J J (aJ Sp (NR _ _ q_r2) ⟨(ht J),(rx (ht J)),be⟩),
     ⟨gF 7 J J J (bw kl J J),
     ⟨eu 59 5 60 6 J J J J (aJ QM (IX _ _ _ q_r3) ⟨(ht J),(ht J),hI,be⟩),
     ⟨cL 61 7 J J J (cz J),
     ⟨cL 53 8 J J J (lg J J),
     ⟨cL 53 8 J J J (lg J J),
     ⟨cL 62 9 J J J (xx J),
     ⟨cL 63 10 J J J (xx J),
     be⟩⟩⟩⟩⟩⟩⟩⟩⟩⟩⟩⟩⟩ ?_
    refine am<|ae<|au<|ax rfl<|zo rfl (qZ rfl)<|ap<|dh h rfl (fun h=>?_) (fun h=>?_)
    ·refine au<|ax J<|zo J (jk J)<|ax J<|cw J J (fun hg=>cz J)<|cw J J (fun hg=>bD (aI J hg) hI)<|zo J (oQ J J)<|bo J<|ap<|al<|aa<|bv ?_;cases so h;exact aB J J
    ·refine dz<|ae<|au<|ax J<|zo J (gJ vg J)<|zo J (bg hI)<|ap ?_;refine sJ (Z:=ly=some R) (Of:=[]) (Gf:=[]) (fun h=>?_) (fun K=>?_)
     ·skip
      refine am<|au<|zo rfl (eL)<|ap<|al ?_;cases so h;exact aB J J
     ·skip
      refine aP (k:=72) J fun hN1=>bu<|nd ?_;refine aG (dk (Z:=fun ls1 i1=>(rows.drop i1=ls1)∧c0 cA r1 r3 ls1 i1=some R) (Of:=fun _ i1=>[]) (Gf:=fun _ i1=>[(1,bQ (IntKind.i64.wrap (((IntKind.u64.wrap cA)).tmod (IntKind.u64.wrap (r1.Tables.length:Int))))),(7,bp bP r1),(11,d6 (bJ) r3.1),(72,d6 (od) rows),(73,gR rows),(74,bQ (i1:Int))]) (fun i1 h=>?_) (fun e2 tl1 ih1 i1 h=>?_) rows 0 ⟨J,h⟩) (aX J)
      ·obtain⟨hx1,h⟩:=h
       refine aq<|au<|zo J (eD J J)<|ap<|ae<|bn (ht J) (cW hx1)<|aY ?_;refine ac (ac (aC ?_));exact bX (K h) trivial
      ·obtain⟨hx1,h⟩:=h
       refine aq<|au<|zo J (eD J J)<|ap<|ae<|bm (ht J) (cR hx1)<|dz<|ae<|av<|au<|ax J<|zo J (im vg xC J J J (cS hx1))<|zo J (bw xC J J)<|bo J<|bo J<|ap<|ae<|au ?_;refine ax J<|zo J (jk J)<|ap<|dh h J (fun h=>?_) (fun h=>?_)
       ·refine aY ?_;refine ac (bE J (ac (ac (aC ?_))));exact bX (K h) trivial
       ·refine dz<|au<|ax J<|bF h fun r4 q_r4 h=>jj So (Kv _ _ q_r4) ⟨(ht J),hI,be⟩ J fun l1 c1=>bo J<|ap<|ae<|au<|ax J<|zo J (eT rn (.head _) (ht J))<|zo J (bg hI)<|ap<|av<|kQ (.head _) fun hN2=>bu ?_;refine aG (Gd (Z:=fun k i2 r5=>(r4.length-i2=k)∧hZ cA r1 r3 (c0 cA r1 r3 tl1) i1 k i2 r5=some R) (Of:=fun _ i2 r5=>[cC bf 82 l1 c1 r5]) (Gf:=fun _ i2 r5=>[(1,bQ (IntKind.i64.wrap (((IntKind.u64.wrap cA)).tmod (IntKind.u64.wrap (r1.Tables.length:Int))))),(7,bp bP r1),(11,d6 (bJ) r3.1),(14,nJ l1 c1 r5),(72,d6 (od) rows),(73,gR rows),(74,bQ (i1:Int)),(84,gR r4),(85,bQ (i2:Int))]) (fun i2 r5 h=>?_) (fun k1 ih2 i2 r5 h=>?_) r4.length 0 r4 ⟨J,h⟩) (aX J)
        ·obtain⟨hx2,h⟩:=h
         refine aq<|au<|zo J (eD J J)<|ap<|ae<|bn (ht J) (Nb hx2)<|aY ?_;refine ac (ac (aC ?_));refine am<|au<|zo rfl (dA)<|ap ?_;refine sJ (Z:=lx (c0 cA r1 r3 tl1) i1=some R) (Of:=[]) (Gf:=[(1,bQ (IntKind.i64.wrap (((IntKind.u64.wrap cA)).tmod (IntKind.u64.wrap (r1.Tables.length:Int))))),(7,bp bP r1),(11,d6 (bJ) r3.1),(72,d6 (od) rows),(73,gR rows),(74,bQ (i1:Int))]) (fun h=>?_) (fun K1=>?_)
         ·skip
          refine ak<|am<|ai<|zo rfl (jN (cy hx1 hN1) rfl)<|ax rfl<|aH ?_;exact aO (aG (ih1 (i1+1) ⟨cx hx1,h⟩) (aX J))
         ·skip
          refine bu<|vN<|u6 14 J ?_;refine aG (Gi (Z:=fun n1 n=>eg cA r1 r3 (c0 cA r1 r3 tl1) i1 r5 n1 n=some R) (Of:=fun n=>[fA bf 82 l1 c1 r5]) (Gf:=fun n=>[(1,bQ (IntKind.i64.wrap (((IntKind.u64.wrap cA)).tmod (IntKind.u64.wrap (r1.Tables.length:Int))))),(7,bp bP r1),(11,d6 (bJ) r3.1),(14,tO bf l1 c1 r5),(16,bQ n),(72,d6 (od) rows),(73,gR rows),(74,bQ (i1:Int))]) (fun n h=>nn h) (fun n1 ih3 n h=>?_) sP (1:Int) h) (aX J);refine aq<|ae<|au<|ax J<|zo J (hU (ht J) hI)<|ap<|dh h J (fun h=>?_) (fun h=>?_)
          ·refine dz<|ae ?_;refine sJ (Z:=ia (eg cA r1 r3 (c0 cA r1 r3 tl1) i1 r5 n1) n=some R) (Of:=[fA bf 82 l1 c1 r5]) (Gf:=[(1,bQ (IntKind.i64.wrap (((IntKind.u64.wrap cA)).tmod (IntKind.u64.wrap (r1.Tables.length:Int))))),(7,bp bP r1),(11,d6 (bJ) r3.1),(14,tO bf l1 c1 r5),(16,bQ n),(72,d6 (od) rows),(73,gR rows),(74,bQ (i1:Int))]) (fun h=>?_) (fun K2=>?_)
           ·skip
            refine am<|ai<|ax rfl<|zo rfl (kw (ht rfl) hI)<|bo rfl<|aH ?_;exact aO (aG (ih3 (IntKind.i64.wrap (n+(1:Int))) h) (aX J))
           ·skip
            refine au<|zo J (bw kl J J)<|ax J<|ax J<|ax J<|bF h fun r6 q_r6 h=>zo J (aJ Sn (NP _ _ _ _ q_r6) ⟨(ht J),(ht J),(rx (ht J)),(ht J),be⟩)<|ax J<|zo J (lg J J)<|zo J (lg J J)<|bo J<|bo J<|ap<|ae<|au<|ax J<|zo J (qZ J)<|ap<|dh h J (fun h=>?_) (fun h=>?_)
            ·refine aY ?_;refine ac (bE J (ac (ac (aC ?_))));refine bv ?_;exact bX (K1 h) (aX J)
            ·refine dz<|ae<|au<|ax J<|bF h fun e4 q_e4 h=>zo J (b9 sL ec J (ht J) hI q_e4)<|zo J (bY kz fa J J)<|zo J (bw bK J J)<|zo J (qZ J)<|ap<|dh h J (fun h=>?_) (fun h=>?_)
             ·refine ae<|au<|ax J<|zo J (qZ J)<|ax J<|cw J J (fun hg=>cz J)<|cw J J (fun hg=>b9 sL ec J (aI J hg) hI q_e4)<|cw J J (fun hg=>cI kz J fa J (aI J hg))<|cw J J (fun hg=>aL bK J J (aI J hg))<|cw J J (fun hg=>cZ (aI J hg) hI)<|zo J (oQ J J)<|ap<|dh h J (fun h=>?_) (fun h=>?_)
              ·refine au<|zo J (eL)<|ap<|al ?_;refine aa (aa (aA (aa (aa (aA (aA (aa (aa (aA (aa ?_))))))))));refine bv ?_;cases so h;exact aB J J
              ·refine dz<|aY ?_;refine ac (aC ?_);exact bX (K2 h) (aX J)
             ·refine dz<|au<|ax J<|ax J<|zo J (b9 sL ec J (ht J) hI q_e4)<|zo J (bY oJ ja J J)<|zo J (bw bZ J J)<|bF h fun r7 q_r7 h=>zo J (aJ PF (IR _ _ q_r7) ⟨(rx (ht J)),(ht J),be⟩)<|ax J<|zo J (lg J J)<|zo J (lg J J)<|bo J<|bo J<|ap<|au<|ax J<|zo J (qZ J)<|ax J<|bF h fun t q_t h=>?_;refine cw J J (fun hg=>cz J)<|cw J J (fun hg=>cz J)<|cw J J (fun hg=>cz J)<|cw J J (fun hg=>kL iF Ci (aI J hg)) ?_
              obtain⟨u1,h1t,h0t⟩:=og q_t
              have q_u1g:=fun hb=>(h1t hb).1
              refine cw J J (fun hg=>Ep (aI J hg) (aI J hg) (Bt (q_u1g hg)))<|cw J J (fun hg=>kL Ci iF (aI J hg))<|cw J J (fun hg=>kw (aI J hg) hI)<|cw J J (fun hg=>cZ (aI J hg) (aI J hg))<|zo J (dV (ht J) (fun hb=>(aI J (mz hb))) (fun hb=>(h1t hb).2) h0t)<|ap<|dh h J (fun h=>?_) (fun h=>?_)
              ·refine au<|zo J (eL)<|ap<|al ?_;refine aA (aa (aa (aA (aA (aa (aa (aA (aa ?_))))))));refine bv ?_;cases so h;exact aB J J
              ·refine bt<|ak ?_;exact bX (K2 h) (aX J)
          ·refine aY ?_;refine ac (ac (aC ?_));refine bv ?_;exact bX (K1 h) (aX J)
        ·obtain⟨hx2,h⟩:=h
         refine aq<|au<|zo J (eD J J)<|ap<|ae<|bm (ht J) (Na hx2)<|dz<|ae<|av<|au<|ax J<|bo J<|ap<|bF h fun e5 q_e5 h=>bF h fun y q_y h=>?_
         refine oP 17 (ts:=[nJ l1 c1 r5,bQ (i2:Int),nJ l1 c1 r5,bQ (i2:Int),tV (iJ l1 ((i2:Int).toNat*4+0)),tV (iJ l1 ((i2:Int).toNat*4+3)),tD rS e5.S,nJ l1 c1 r5,bQ (i2:Int),tV (iJ l1 ((i2:Int).toNat*4+0)),tV (iJ l1 ((i2:Int).toNat*4+3)),tD rS e5.S,gR e5.S,bQ (min (e5.S.length:Int) (41:Int)),tD rS y,tV (iJ l1 ((i2:Int).toNat*4+0)),tV (iJ l1 ((i2:Int).toNat*4+3))]) mixed J J J
          ⟨gF 14 J J J (cz J),
          ⟨gF 15 J J J (cz J),
          ⟨gF 14 J J J (cz J),
          ⟨gF 15 J J J (cz J),
          ⟨eu 90 2 91 3 J J J J (cH rn kF (.head _) (ht J) (ht J) q_e5),
          ⟨cL 92 4 J J J (eO (o:=(i2:Int).toNat*4+0) (n:=(i2:Int).toNat*4+3) tL J (.head _) q_e5 (ht J) J),
          ⟨cL 93 5 J J J (ew (r:=bf) (i:=(i2:Int)) (foff:=3) Cr J J mR J (.head _) q_e5 (ht J)),
          ⟨gF 14 J J J (cz J),
          ⟨gF 15 J J J (cz J),
          ⟨eu 95 7 96 8 J J J J (cH rn kF (.head _) (ht J) (ht J) q_e5),
          ⟨cL 97 9 J J J (eO (o:=(i2:Int).toNat*4+0) (n:=(i2:Int).toNat*4+3) tL J (.head _) q_e5 (ht J) J),
          ⟨cL 98 10 J J J (ew (r:=bf) (i:=(i2:Int)) (foff:=3) Cr J J mR J (.head _) q_e5 (ht J)),
          ⟨cL 99 11 J J J (wV iU (ht J)),
          ⟨cL 100 12 J J J (qA (ht J) hI),
          ⟨eu 94 6 101 13 J J J J (GZ iU (ht J) (ht J) q_y),
          ⟨eu 88 0 89 1 J J J J (cH rn kF (.head _) (ht J) (ht J) q_e5),
          ⟨cL 103 15 J J J (eO (o:=(i2:Int).toNat*4+0) (n:=(i2:Int).toNat*4+3) tL J (.head _) q_e5 (ht J) J),
          be⟩⟩⟩⟩⟩⟩⟩⟩⟩⟩⟩⟩⟩⟩⟩⟩⟩ ?_
         refine bF h fun st q_st h=>m2 Cr J xL J q_e5 (so q_st) (ht J) (ht J)<|ji (iO (so q_st)) 14 J<|ji (iO (so q_st)) 88 J<|ji (iO (so q_st)) 90 J<|ji (iO (so q_st)) 95 J<|aH<|ak<|am<|ai<|zo rfl (uy (J9 hx2 (Nc hN2)) (ht rfl) hI)<|ax rfl<|aH ?_;exact aO (aG (ih2 (i2+1) st ⟨J8 hx2,h⟩) (aX J))
   ·obtain⟨hx,h⟩:=h
    refine aq<|au<|zo J (eD J J)<|ap<|ae<|bm (ht J) (cR hx)<|dz<|ae<|av<|au<|zo J (im pw k5 J J J (cS hx))<|zo J (bw k5 J J)<|bc (r:=bO) (x:=HV) k5 (fun _=>mE _) J fun b1=>aE k5 J ay J (ht J) (ht J)<|aV 10 J<|ap<|ai<|ax J<|zo J (bY BD pe J J) ?_;refine zo J (bw bK J J)<|zo J (ba (r:=bV) (ys:=[e1.Kind]) (xs:=[.tmp 49]) dd bK J J J J J ⟨(ht J),be⟩)<|bF h fun kinds1 q_kinds1 h=>dv bK J J J J dd J J (ht J) (ht J) q_kinds1 fun l2 c2=>bo J<|aH<|ak<|am<|ai<|zo rfl (jN (cy hx hN) rfl)<|ax rfl<|aH ?_;exact aO (aG (ih (i+1) kinds1 l2 c2 ⟨cx hx,h⟩) (aX J))

end Go.Proofs.YtmogpgcfognefaaGreatDoor

