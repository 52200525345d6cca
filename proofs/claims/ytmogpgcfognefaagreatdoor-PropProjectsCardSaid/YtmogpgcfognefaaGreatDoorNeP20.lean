/- co of this claim: P20. -/
import Derived.Test.YtmogpgcfognefaaGreatDoorNeT
import Derived.Test.YtmogpgcfognefaaGreatDoorNeP19
set_option linter.all false
namespace Go.Proofs.YtmogpgcfognefaaGreatDoor
open Go
set_option maxRecDepth 100000

theorem TG(b:Nat)(register:Int)(lO:(List Int))(c:Int){R:Int}(h:rt register lO c=some R):fq aM 180 [tD (rI .u8) c,tV (aI b 0),bq CO lO] [bx ro 85 b register] (fun i:OI=>tT []) (fun i=>[bx ro 85 b R]):=by
 refine fq.of Tryz.func180 J J J fun w0 S0=>bF h fun e q_e h=>?_
 refine oh 9 (ts:=[tD ro register,tD ro ((register).fdiv (2^(min (Int.toNat (8:Int)) IntKind.u32.bits))),tD ro register,tD (rI .u8) (IntKind.u8.wrap register),tD (rI .u8) c,tD (rI .u8) (gM .xor .u8 (IntKind.u8.wrap register) c),bq ro e,tD ro e,tD ro (gM .xor .u32 ((register).fdiv (2^(min (Int.toNat (8:Int)) IntKind.u32.bits))) e)]) mixed J J J
  ⟨ia 1 J J J (br p7 J J cF (.head _) (ht J)),
  ⟨cO 4 0 J J J (uW (ht J) hI (by decide)),
  ⟨ia 1 J J J (br p7 J J cF (.head _) (ht J)),
  ⟨cO 6 2 J J J (pf Tryz.underlying85 Dh (ht J)),
  ⟨ia 0 J J J (cL J),
  ⟨ft 7 3 8 4 J J J J (uV (ht J) (ht J)),
  ⟨Od 2 9 5 J J J J (wC Er p7 J (ht J) (ht J) q_e),
  ⟨cO 10 6 J J J (bz p7 J J),
  ⟨ft 5 1 11 7 J J J J (uV (ht J) (ht J)),
  aU⟩⟩⟩⟩⟩⟩⟩⟩⟩ ?_
 refine ay p7 J ap J (ht J) (ht J)<|aH ?_;cases so h;exact LR J (oi none 0) J J

theorem Qw(b:(List Int)){R:Int}(h:vw b=some R):aN aM 114 [d7 ((rI .u8)) b] (tD ro R):=by
 refine aN.of Tryz.func114 J J J fun w0 S0=>aq<|zo J (cQ)<|an<|aq<|bF h fun r q_r h=>zo J (aD Wc (PP q_r) trivial)<|aO (r:=CO) (x:=(List.replicate 256 (0:Int))) Dn (fun _=>vm (r:=ro) 256 (fun _=>J) _) J fun b1=>ay Dn J ap J (ht J) (ht J)<|aL 3 J<|an<|aq<|aO (r:=ro) (x:=(0:Int)) p7 (fun _=>J) J fun b2=>ay p7 J ap J (ht J) hI<|an<|aq<|zo J (BH (cts:=[tV (aI b2 0),bq CO r]) (caps:=[.tmp 4,.tmp 3]) ⟨(ht J),(ht J),aU⟩) ?_;refine bk J<|an<|ae<|aq<|aA J<|zo J (ja Es J)<|zo J (bl hI)<|an<|ax<|aV (k:=10) J fun hN=>bB ?_;refine aJ (ln (Z:=fun ls i register=>(b.drop i=ls)∧mw r ls register=some R) (Of:=fun _ i register=>[bx ro 85 b2 register]) (Gf:=fun _ i register=>[(4,tV (aI b2 0)),(5,tC 180 [tV (aI b2 0),bq CO r]),(10,d7 ((rI .u8)) b),(11,hM b),(12,bH (i:Int))]) (fun i register h=>?_) (fun e tl ih i register h=>?_) b 0 (4294967295:Int) ⟨J,h⟩) (aZ J)
 ·obtain⟨hx,h⟩:=h
  refine av<|aq<|zo J (eK J J)<|an<|ae<|bp (ht J) (cW hx)<|bg ?_;refine ac (ac (aF ?_));refine au<|aq<|zo rfl (br p7 rfl rfl cF (.head _) (ht rfl))<|zo rfl (SQ (ht rfl))<|bk rfl<|an<|aj<|ba ?_;cases so h;exact aB J J
 ·obtain⟨hx,h⟩:=h
  refine av<|aq<|zo J (eK J J)<|an<|ae<|bo (ht J) (cU hx)<|dA<|ae<|ax<|aq<|zo J (iX Es Ok J J J (cP hx))<|zo J (bz Ok J J)<|bk J<|an<|ai<|aA J<|aA J<|bF h fun r1 q_r1 h=>vo (vU (xs:=[.tmp 17]) (ts:=[tD (rI .u8) e]) (cts:=[tV (aI b2 0),bq CO r]) (post:=fun i=>[bx ro 85 b2 r1]) [bx ro 85 b2 register] [] J Wb (TG b2 _ _ _ q_r1) (ht J) ⟨(ht J),aU⟩ (fun _=>J)) J fun i1=>?_;refine(show RG _ _ _ _ [bx ro 85 b2 r1] _ from ?_);refine aH<|am<|au<|ai<|zo rfl (jU (cz hx hN) rfl)<|aA rfl<|aH ?_;exact aT (aJ (ih (i+1) r1 ⟨cy hx,h⟩) (aZ J))

theorem Tt(r:(List M)){R:Int}(h:xE r=some R):aN aM 63 [d7 (af) r] (tD ro R):=by
 refine aN.of Tryz.func63 J J J fun w0 S0=>aq<|zo J (cQ)<|an<|aq<|cm false (rI .u8) 5<|zo J (bm vP)<|an<|ae<|aq<|aA J<|zo J (ja sW J)<|zo J (bl hI)<|an<|ax<|aV (k:=6) J fun hN=>bB<|zB ?_;refine yC 3 J ?_;refine aJ (mp (Z:=fun ls i b l c=>(r.drop i=ls)∧nt ls b=some R) (Of:=fun _ i b l c=>[eF (rI .u8) 5 l c b]) (Gf:=fun _ i b l c=>[(3,tO (rI .u8) l c b),(6,d7 (af) r),(7,hM r),(8,bH (i:Int))]) (fun i b l c h=>?_) (fun e tl ih i b l c h=>?_) r 0 mu none 0 ⟨J,h⟩) (aZ J)
 ·obtain⟨hx,h⟩:=h
  refine av<|aq<|zo J (eK J J)<|an<|ae<|bp (ht J) (cW hx)<|bg ?_;refine ac (ac (aF ?_));refine au<|aq<|aA rfl<|bF h fun r1 q_r1 h=>zo J (aD WP (Qw _ q_r1) ⟨(pC (ht J)),aU⟩)<|bk J<|an<|aj<|ba ?_;cases so h;exact aB J J
 ·obtain⟨hx,h⟩:=h
  refine av<|aq<|zo J (eK J J)<|an<|ae<|bo (ht J) (cU hx)<|dA<|ae<|ax<|aq<|zo J (iX sW bt J J J (cP hx))<|zo J (bz bt J J)<|aO (r:=af) (x:=lb) bt (fun _=>ca _) J fun b1=>ay bt J ap J (ht J) (ht J)<|aL 5 J<|an<|aq<|aA J ?_;refine zo J (cd jC ee J J)<|zo J (bz bJ J J)<|zo J (pf ou Dh (ht J))<|zo J (aP (r:=(rI .u8)) (ys:=[(IntKind.u8.wrap e.Kind)]) (xs:=[.tmp 15]) Es Ok J J J J J ⟨(ht J),aU⟩)<|bF h fun b2 q_b2 h=>j5 Ok J J J J Es J J (ht J) (ht J) q_b2 fun l1 c1=>bk J<|an<|ae<|bF h fun r2 q_r2 h=>?_
  refine oe 7 [tc (tO (rI .u8) l1 c1 b2),tc (bq bQ e.N),tc (bH e.N),tc (tD xr (IntKind.u64.wrap e.N)),([4],fun s=>tO (rI .u8) ((s.getD 0 wc).h 0).1 ((s.getD 0 wc).h 0).2 r2),tc (bq xr e.U),tc (tD xr e.U)] [false,false,false,false,true,false,false] [fun _=>[eF (rI .u8) 5 l1 c1 b2],fun sg=>[eF (rI .u8) 5 ((sg 4).h 0).1 ((sg 4).h 0).2 r2]] J mixed J J J J J
   ⟨⟨[⟨3,fun _=>tO (rI .u8) l1 c1 b2,none⟩],_,0,0,J,⟨(fun _=>J),aU⟩,J,J,J,J,J,fun _ sg _ _=>ak J (cL J)⟩,
   ⟨⟨[⟨5,fun _=>bq af e,none⟩],_,0,0,J,⟨(fun _=>J),aU⟩,J,J,J,J,J,fun _ sg _ _=>ak J (cd re kP J J)⟩,
   ⟨⟨[⟨19,fun _=>bq bQ e.N,some 1⟩],_,0,0,J,⟨(fun _=>J),aU⟩,J,J,J,J,J,fun _ sg _ _=>ak J (bz Ky J J)⟩,
   ⟨⟨[⟨20,fun _=>tD bQ e.N,some 2⟩],_,0,0,J,⟨(fun _=>J),aU⟩,J,J,J,J,J,fun _ sg _ _=>ak J (pf CH CK (ht J))⟩,
   ⟨⟨[⟨18,fun _=>tO (rI .u8) l1 c1 b2,some 0⟩,⟨21,fun _=>tD xr (IntKind.u64.wrap e.N),some 3⟩],_,J,⟨(fun _=>J),(fun _=>J),aU⟩,J,J,J,fun sg=>dN J (zm (xs:=[.tmp 18,.tmp 21]) (ts:=[tV (aw l1 c1 b2.length),tD xr (IntKind.u64.wrap e.N)]) [_] _ J R5 (Nj _ _ _ _ q_r2) ⟨(xz (ht J)),(ht J),aU⟩ (fun _=>J))⟩,
   ⟨⟨[⟨5,fun _=>bq af e,none⟩],_,0,1,J,⟨(fun _=>J),aU⟩,J,J,J,J,J,fun _ sg _ _=>ak J (cd M0 B4 J J)⟩,
   ⟨⟨[⟨23,fun _=>bq xr e.U,some 5⟩],_,0,1,J,⟨(fun _=>J),aU⟩,J,J,J,J,J,fun _ sg _ _=>ak J (bz Sw J J)⟩,
   aU⟩⟩⟩⟩⟩⟩⟩ (fun sg=>?_)
  refine(show RG _ _ _ _ [eF (rI .u8) 5 ((sg 4).h 0).1 ((sg 4).h 0).2 r2] _ from ?_);refine bF h fun r3 q_r3 h=>yy [eF (rI .u8) 5 ((sg 4).h 0).1 ((sg 4).h 0).2 r2] _ J R5 (Nj (((sg 4).h 0).1) (((sg 4).h 0).2) _ _ q_r3) ⟨(xz (ht J)),(ht J),aU⟩ J fun i1=>?_;refine(show RG _ _ _ _ [eF (rI .u8) 5 (i1.h 0).1 (i1.h 0).2 r3] ((25,tO (rI .u8) (i1.h 0).1 (i1.h 0).2 r3)::_)from ?_);refine bk J<|an<|bF h fun l3 q_l3 h=>?_
  refine oe 9 [tc (tO (rI .u8) (i1.h 0).1 (i1.h 0).2 r3),tc (bq rS e.S),tc (tD rS e.S),tc (hM e.S),tc (tD (rI .u8) (IntKind.u8.wrap (e.S.length:Int))),tc (d7 ((rI .u8)) ([(IntKind.u8.wrap (e.S.length:Int))])),([6],fun s=>tO (rI .u8) ((s.getD 0 wc).h 0).1 ((s.getD 0 wc).h 0).2 l3),tc (bq rS e.S),tc (tD rS e.S)] [false,false,false,false,false,false,true,false,false] [fun _=>[eF (rI .u8) 5 (i1.h 0).1 (i1.h 0).2 r3],fun sg1=>[eF (rI .u8) 5 ((sg1 6).h 0).1 ((sg1 6).h 0).2 l3]] J mixed J J J J J
   ⟨⟨[⟨3,fun _=>tO (rI .u8) (i1.h 0).1 (i1.h 0).2 r3,none⟩],_,0,0,J,⟨(fun _=>J),aU⟩,J,J,J,J,J,fun _ sg1 _ _=>ak J (cL J)⟩,
   ⟨⟨[⟨5,fun _=>bq af e,none⟩],_,0,0,J,⟨(fun _=>J),aU⟩,J,J,J,J,J,fun _ sg1 _ _=>ak J (cd zh oO J J)⟩,
   ⟨⟨[⟨27,fun _=>bq rS e.S,some 1⟩],_,0,0,J,⟨(fun _=>J),aU⟩,J,J,J,J,J,fun _ sg1 _ _=>ak J (bz ED J J)⟩,
   ⟨⟨[⟨28,fun _=>tD rS e.S,some 2⟩],_,0,0,J,⟨(fun _=>J),aU⟩,J,J,J,J,J,fun _ sg1 _ _=>ak J (E1 kc (ht J))⟩,
   ⟨⟨[⟨29,fun _=>tD bQ (e.S.length:Int),some 3⟩],_,0,0,J,⟨(fun _=>J),aU⟩,J,J,J,J,J,fun _ sg1 _ _=>ak J (pf ou Dh (ht J))⟩,
   ⟨⟨[⟨30,fun _=>tD (rI .u8) (IntKind.u8.wrap (e.S.length:Int)),some 4⟩],_,0,0,J,⟨(fun _=>J),aU⟩,J,J,J,J,J,fun _ sg1 _ _=>ak J (aP (r:=(rI .u8)) (ys:=[(IntKind.u8.wrap (e.S.length:Int))]) (xs:=[.tmp 30]) Es Ok J J J J J ⟨(ht J),aU⟩)⟩,
   ⟨⟨[⟨26,fun _=>tO (rI .u8) (i1.h 0).1 (i1.h 0).2 r3,some 0⟩,⟨31,fun _=>tD (fz (rI .u8)) ([(IntKind.u8.wrap (e.S.length:Int))]),some 5⟩],_,J,⟨(fun _=>J),(fun _=>J),aU⟩,J,J,J,fun sg1=>dN J (Ah Ok J J J J Es J (ht J) (ht J) q_l3)⟩,
   ⟨⟨[⟨5,fun _=>bq af e,none⟩],_,0,1,J,⟨(fun _=>J),aU⟩,J,J,J,J,J,fun _ sg1 _ _=>ak J (cd zh oO J J)⟩,
   ⟨⟨[⟨33,fun _=>bq rS e.S,some 7⟩],_,0,1,J,⟨(fun _=>J),aU⟩,J,J,J,J,J,fun _ sg1 _ _=>ak J (bz ED J J)⟩,
   aU⟩⟩⟩⟩⟩⟩⟩⟩⟩ (fun sg1=>?_)
  refine(show RG _ _ _ _ [eF (rI .u8) 5 ((sg1 6).h 0).1 ((sg1 6).h 0).2 l3] _ from ?_);refine bF h fun b3 q_b3 h=>Hk Ok J J Es kc J (ht J) (ht J) q_b3 fun l4 c3=>bk J<|aH<|am<|au<|ai<|zo rfl (jU (cz hx hN) rfl)<|aA rfl<|aH ?_;exact aT (aJ (ih (i+1) b3 l4 c3 ⟨cy hx,h⟩) (aZ J))

theorem M9(r:(List M))(columns:(List Int)){R:Int×Int}(h:mU r columns=some R):aN aM 27 [d7 (af) r,kz columns] (tT [tD ro R.1,bH R.2]):=by
 refine aN.of Tryz.func27 J J J fun w0 S0=>aq<|zo J (cQ)<|zo J (cQ)<|an<|aq<|aA J<|aA J<|bF h fun r1 q_r1 h=>zo J (aD Yi (Tv _ _ q_r1) ⟨(ht J),(ht J),aU⟩)<|aA J<|zo J (hY J J)<|zo J (hY J J)<|bk J<|bk J<|an<|ae<|aq<|aA J ?_;refine zo J (rn J)<|an<|cX h J (fun h=>?_) (fun h=>?_)
 ·refine aq<|aA J<|zo J (cQ)<|bk J<|an<|aj<|aa ?_;cases so h;exact d5 J J J
 ·refine dA<|aq<|aA J<|bF h fun r2 q_r2 h=>zo J (aD Yh (Tt _ q_r2) ⟨(ht J),aU⟩)<|bk J<|zo J (cQ)<|an<|aj ?_;cases so h;exact d5 J J J

theorem TD(n:Int){R:bf}(h:zd n=some R):aN aM 28 [bH n] (tD bn R):=by
 refine aN.of Tryz.func28 J J J fun w0 S0=>aq<|aO (r:=bn) (x:=nH) gj (fun _=>nJ _) J fun b=>an<|aq<|aA J<|zo J (cb (y:=(⟨(2:Int),(0:Int),(0:Int),n,lb⟩:bc)) cY RB k8 (⟨_,_,_,_,_,J,Bw,J,hI,⟨_,_,_,_,_,J,HO,J,(ht J),J⟩⟩))<|bF h fun r q_r h=>zo J (aD Vh (M8 _ _ q_r) ⟨(ht J),uf,aU⟩)<|ay gj J ap J (ht J) (ht J)<|aL 2 J<|an<|aj ?_;cases so h;exact eE J gj J J J

end Go.Proofs.YtmogpgcfognefaaGreatDoor

