/- cE of this claim: P4. -/
import Derived.Test.YtdohlidddcgfjaaGreatFcT
import Derived.Test.YtdohlidddcgfjaaGreatFcP3
set_option linter.all false
namespace Go.Proofs.YtdohlidddcgfjaaGreat
open Go
set_option maxRecDepth 100000

def X2(b:Nat)(ix:OI) l{R}(h:fd l=some R):bK bd 167 [M (Z b 0)] (fx b l ix) (fun _:OI=>fM R.1) (fun j=>fx b R.2 j):=by
 refine bK.of Tryz.func167 J J J fun w0 S0=>?_;refine(show CG _ _ _ [bx (rH bQ [(1,ay (ix.h 0).1 (ix.h 0).2 l.kinds.length),(2,ay (ix.h 1).1 (ix.h 1).2 l.open_.length)]) 168 b l,tip nq 69 (ix.h 0).1 (ix.h 0).2 l.kinds,db bV 3 (ix.h 1).1 (ix.h 1).2 l.open_] _ from ?_);refine d<|bm<|bu<|ax J<|s (aO (D J))<|bh 3 iI J<|s (aL (r:=rH bQ [(1,ay (ix.h 0).1 (ix.h 0).2 l.kinds.length),(2,ay (ix.h 1).1 (ix.h 1).2 l.open_.length)]) (x:=l) dA J J (fF gx) (.head _) (D J))<|bz dA ie J fun b1=>bO dA aB J<|bj 3 J<|bu<|d<|aQ ju dE cu J<|bI df J<|s (eY (D J) hI)<|Q J<|ae J (bv gA cO J J) ?_;refine ae J (bq o0 J J)<|ae J (gp lb J)<|ae J (fun Y=>eY (bl J Y) hI)<|cm J<|Q J<|ae J (bv ju dE J J)<|ae J (bq cu J J)<|ae J (gp df J)<|ae J (bv gA cO J J)<|ae J (bq o0 J J)<|ae J (gp lb J)<|ae J (fun Y=>cW (bl J Y) (bl J Y))<|ae J (fun Y=>dD (bl J Y) hI)<|cm J<|aN J<|ax J<|s (aO (D J))<|bh 17 gN J<|ci false bV 3<|bY ?_;refine hU cu J (ut (hs' :=[(1,ay (ix.h 0).1 (ix.h 0).2 l.kinds.length),(2,ay (ix.h 1).1 (ix.h 1).2 l.open_.length)]) (mJ _ _) ⟨.inr ⟨J,J⟩,.inr ⟨J,J⟩,aZ⟩ J) J (D J) (FI (show aY _ _ _ (M HB)from tE)) ?_;refine(show RG _ _ _ _ [_,_,_,_] _ from ?_);refine bu<|aS<|aQ ju dE cu J<|bI df J<|s (bT hI)<|bu<|ak<|bo (k:=40) J fun hN=>bA<|dY<|gW<|gW<|gW ?_;refine aH (wy (aa:=fun ls i ob l1 c l2 c1 l3 c2=>(l.n.Keys.drop i=ls)/\dV l ls ob=some R) (Of:=fun _ i ob l1 c l2 c1 l3 c2=>[bx (rH cG [(1,ay l1 c ob.kinds.length),(2,ay l2 c1 ob.open_.length)]) 168 b (cR ob (ay l3 c2 ob.result.length)),tip nq 69 l1 c ob.kinds,db bV 3 l2 c1 ob.open_,db bV 3 l3 c2 ob.result]) (Gf:=fun _ i ob l1 c l2 c1 l3 c2=>[(0,M (Z b 0)),(3,ck aM l.n),(4,fM (((decide ((l.n.Keys.length:Int)<=(3:Int)))&&(decide ((l.n.Aggs.length:Int)<=(12:Int))))&&(decide ((0:Int)<(IntKind.i64.wrap ((l.n.Keys.length:Int)+(l.n.Aggs.length:Int))))))),(40,jK l.n.Keys),(41,kE l.n.Keys),(42,bH (i:Int))]) (fun i ob l1 c l2 c1 l3 c2 h=>?_) (fun e tl ih i ob l1 c l2 c1 l3 c2 h=>?_) l.n.Keys 0 ({l with result:=pu}:aq) (ix.h 0).1 (ix.h 0).2 (ix.h 1).1 (ix.h 1).2 none 0 ⟨J,h⟩) (aX J)
 ·obtain⟨V,h⟩:=h
  refine ez V J<|au<|aS<|aQ gA cO o0 J<|bI lb J<|s (bT hI)<|bu<|ak<|bo (k:=75) J fun hN1=>?_;refine bA ?_;refine aH (BZ (aa:=fun ls1 i1 ok ob1 l4 c3 l5 c4 l6 c5=>(l.n.Aggs.drop i1=ls1)/\cN ls1 ok ob1=some R) (Of:=fun _ i1 ok ob1 l4 c3 l5 c4 l6 c5=>[bx (rH cG [(1,ay l4 c3 ob1.kinds.length),(2,ay l5 c4 ob1.open_.length)]) 168 b (cR ob1 (ay l6 c5 ob1.result.length)),tip nq 69 l4 c3 ob1.kinds,db bV 3 l5 c4 ob1.open_,db bV 3 l6 c5 ob1.result]) (Gf:=fun _ i1 ok ob1 l4 c3 l5 c4 l6 c5=>[(0,M (Z b 0)),(4,fM ok),(75,em (fh) l.n.Aggs),(76,kE l.n.Aggs),(77,bH (i1:Int))]) (fun i1 ok ob1 l4 c3 l5 c4 l6 c5 h=>?_) (fun e1 tl1 ih1 i1 ok ob1 l4 c3 l5 c4 l6 c5 h=>?_) l.n.Aggs 0 (((decide ((l.n.Keys.length:Int)<=(3:Int)))&&(decide ((l.n.Aggs.length:Int)<=(12:Int))))&&(decide ((0:Int)<(IntKind.i64.wrap ((l.n.Keys.length:Int)+(l.n.Aggs.length:Int)))))) ob l1 c l2 c1 l3 c2 ⟨J,h⟩) (aX J)
  ·obtain⟨hx1,h⟩:=h
   refine ez hx1 J<|au<|ax J<|bf J<|ba<|dq<|am<|vW (r' :=rH bQ [(1,ay l4 c3 ob1.kinds.length),(2,ay l5 c4 ob1.open_.length)]) (x' :=ob1) (fun _ _ _ ho h=>SN h (fun h=>jy (qk ho (.head _)) h)) ?_;exact am<|aV<|aT<|aT<|aT<|so h▸cj J (sj [(l4,c3),(l5,c4)]) J J (fun _ _ h=>h)
  ·obtain⟨hx1,h⟩:=h
   refine ew hx1 J<|aP<|ak<|d<|dg lb ig J (dJ hx1)<|bz ig tq J fun b2=>bO ig aB J<|bj 8 J<|bu<|d<|ca ?_;refine bu ?_;refine CI (aa:=fun ok1 k=>fz (cN tl1) ob1 ok1 k=some R) (Of:=fun ok1 k=>[bx (rH cG [(1,ay l4 c3 ob1.kinds.length),(2,ay l5 c4 ob1.open_.length)]) 168 b (cR ob1 (ay l6 c5 ob1.result.length)),tip nq 69 l4 c3 ob1.kinds,db bV 3 l5 c4 ob1.open_,db bV 3 l6 c5 ob1.result]) (Gf:=fun ok1 k=>[(0,M (Z b 0)),(4,fM ok1),(9,bH k),(75,em (fh) l.n.Aggs),(76,kE l.n.Aggs),(77,bH (i1:Int))]) (fun ok1 k h=>?_) (fun h2=>?_)
   ·skip
    refine aj<|Q J<|Q J<|s (aO (D J))<|bh 17 gN J<|s (nF cu (fF mS) (.head _) J (D J))<|Q J<|s (aI (r:=bV) (ys:=[k]) (xs:=[.tmp 139]) df bB J J J J J ⟨(D J),aZ⟩)<|kU<|bR h fun l7 q_l7 h=>bD bB J J J J df J J (D J) (D J) q_l7 fun l8 c6=>s (aO (D J))<|bh 17 gN J<|bY<|hU cu J (ut (hs' :=[(1,ay l4 c3 ob1.kinds.length),(2,ay l5 c4 ob1.open_.length)]) (jA _ _ _) ⟨.inr ⟨J,J⟩,.inr ⟨J,J⟩,aZ⟩ J) J (D J) (FI (D J)) ?_;refine(show RG _ _ _ _ [_,_,_,_] _ from ?_);refine aJ<|dd hx1 hN1 J<|am<|ba<|ba<|ba ?_;exact aU (aH (ih1 (i1+1) ok1 ({ob1 with result:=l7}:aq) l4 c3 l5 c4 l8 c6 ⟨da hx1,h⟩) (aX J))
   ·skip
    refine d<|aQ jx hM bB J<|bp J<|bW h J (fun h=>?_) (fun h=>?_)
    ·refine aj<|Q J<|Q J<|ae J (bv oe ma J J)<|ae J (fun Y=>fj f7 J dw J (bl J Y))<|ae J (bq nM J J)<|ae J (gp j5 J)<|ae J (gQ J)<|cm J<|d6 J<|aJ ?_;exact bE (h2 (ok&&((e1.Arg.Nodes.length:Int)==(0:Int))) (2:Int) h) (aX J)
    ·refine aP<|bR h fun r q_r h=>?_
     refine gO (ts:=[_,_,_,_,_,_,_,_,_,_,_,_]) mixed J J
      ⟨zZ 8 J J (oq oe ma J J),
      ⟨lK 0 gn J J,
      ⟨fP J J,
      ⟨ff 95 2 J J (aO (D J)),
      ⟨ff 96 3 J J (q9 15 kh J J J),
      ⟨ff 97 4 J J (aL (r:=rH cG [(1,ay l4 c3 ob1.kinds.length),(2,ay l5 c4 ob1.open_.length)]) (x:=cR ob1 (ay l6 c5 ob1.result.length)) cu J J (fF lz) (.head _) (D J)),
      ⟨ga 94 1 98 5 J J J (cD NP (DB _ _ q_r) ⟨(D J),(D J),aZ⟩),
      ⟨ff 99 6 J J (mt J),
      ⟨ff 92 7 J J (Jd J J),
      ⟨ff 92 7 J J (Jd J J),
      ⟨ff 100 8 J J (DX J),
      ⟨ff 101 9 J J (DX J),
      aZ⟩⟩⟩⟩⟩⟩⟩⟩⟩⟩⟩⟩ ?_
     refine au<|ax J<|Q J<|ae J (bX J)<|ae J (gQ J)<|cm J<|Q J<|ae J (bv jx hM J J)<|ae J (bq bB J J)<|ae J (fun Y=>dD (bl J Y) hI)<|cm J<|Q J<|ae J (bv jx hM J J)<|ae J (bq bB J J)<|ae J (fun Y=>eY (bl J Y) hI)<|cm J<|aN J<|d<|qE jx hM J ?_;refine dH bB J<|bu<|ak<|d<|bp J<|aN J<|fy h J (fun h=>?_) (fun h=>?_)
     ·refine aj<|Q J<|Q J<|ae J (bX J)<|ae J (gQ J)<|ae J (nQ J)<|cF J J J J (fun Y=>mt J)<|cF J J J J (fun Y=>di (bl J Y) hI)<|ae J (fun Y=>kL (bl J Y) (fun H=>(bl J (sd Y (sb H)))))<|cm J<|d6 J<|aJ<|al ?_;exact bE (h2 ((((ok&&(r.2==(0:Int)))&&(decide ((1:Int)<e1.Tag)))&&(decide (e1.Tag<=(5:Int))))&&((r.1==(2:Int))||(r.1==(0:Int)))) (2:Int) h) (aX J)
     ·refine d5 (aa:=fun x=>iM (cN tl1) e1 ok ob1 r x=some R) (Of:=fun x=>[bx (rH cG [(1,ay l4 c3 ob1.kinds.length),(2,ay l5 c4 ob1.open_.length)]) 168 b (cR ob1 (ay l6 c5 ob1.result.length)),tip nq 69 l4 c3 ob1.kinds,db bV 3 l5 c4 ob1.open_,db bV 3 l6 c5 ob1.result]) (Gf:=fun x=>[(0,M (Z b 0)),(4,fM (((ok&&(r.2==(0:Int)))&&(decide ((1:Int)<e1.Tag)))&&(decide (e1.Tag<=(5:Int))))),(9,bH 2),(10,bH r.1),(75,em (fh) l.n.Aggs),(76,kE l.n.Aggs),(77,bH (i1:Int)),(130,fM x)]) (fun x h=>?_) (fun K1=>?_)
      ·skip
       refine fy h J (fun h=>?_) (fun h=>?_)
       ·refine aj<|Q J<|d6 J<|aJ<|al ?_;exact bE (h2 (((ok&&(r.2==(0:Int)))&&(decide ((1:Int)<e1.Tag)))&&(decide (e1.Tag<=(5:Int)))) r.1 h) (aX J)
       ·refine bc<|al ?_;exact bE (h2 (((ok&&(r.2==(0:Int)))&&(decide ((1:Int)<e1.Tag)))&&(decide (e1.Tag<=(5:Int)))) (2:Int) h) (aX J)
      ·skip
       refine d<|bp J<|aN J<|fy h J (fun h=>?_) (fun h=>?_)
       ·refine bc ?_;exact bE (K1 (e1.Tag==(4:Int)) h) (aX J)
       ·refine aj<|bp J<|d6 J<|aJ ?_;exact bE (K1 (e1.Tag==(5:Int)) h) (aX J)
 ·obtain⟨V,h⟩:=h
  refine ew V J<|aP<|ak<|d<|dg df bB J (dJ V)<|aN J<|aS<|Q J<|s (fH (D J) hI) ?_;refine Q J<|aD J (bX J)<|aD J (bX J)<|aD J (fun Y=>aO (bl J Y))<|aD J (fun Y=>cr (n:=15) kh J (bl J Y) J)<|aD J (fun Y=>aL (r:=rH cG [(1,ay l1 c ob.kinds.length),(2,ay l2 c1 ob.open_.length)]) (x:=cR ob (ay l3 c2 ob.result.length)) cu J J (fF lz) (.head _) (bl J Y))<|aD J (gp df J)<|aD J (fun Y=>dB (bl J Y) (bl J Y))<|dG J<|bW h J (fun h=>?_) (fun h=>?_)
  ·exact d<|bm<|bM<|af<|cx<|af<|cx<|ba<|dq<|am<|vW (r' :=rH bQ [(1,ay l1 c ob.kinds.length),(2,ay l2 c1 ob.open_.length)]) (x' :=ob) (fun _ _ _ ho h=>SN h (fun h=>jy (qk ho (.head _)) h))<|am<|aV<|aT<|aT<|aT<|so h▸cj J (sj [(l1,c),(l2,c1)]) J J (fun _ _ h=>h)
  ·refine fN<|bR h fun e2 q_e2 h=>bR h fun l9 q_l9 h=>?_
   refine ja 14 [tc (M (Z b 0)),tc (M (Z b 0)),tc (M (Z b 0)),tc (M (Z b 17)),tc (nO l3 c2 ob.result),tc (M (Z b 0)),tc (M (Z b 0)),tc (M (Z b 15)),tc (jK ob.a_),tc (bH e),tc (ck bV e2),tc (bH e2),tc (jK ([e2])),([13],fun ac=>M (ay ((ac.getD 0 ml).h 0).1 ((ac.getD 0 ml).h 0).2 l9.length))] [false,false,false,false,false,false,false,false,false,false,false,false,false,true] [fun _=>[bx (rH cG [(1,ay l1 c ob.kinds.length),(2,ay l2 c1 ob.open_.length)]) 168 b (cR ob (ay l3 c2 ob.result.length)),tip nq 69 l1 c ob.kinds,db bV 3 l2 c1 ob.open_,db bV 3 l3 c2 ob.result],fun sg=>[db bV 3 ((sg 13).h 0).1 ((sg 13).h 0).2 l9,bx (rH cG [(1,ay l1 c ob.kinds.length),(2,ay l2 c1 ob.open_.length)]) 168 b (cR ob (ay l3 c2 ob.result.length)),tip nq 69 l1 c ob.kinds,db bV 3 l2 c1 ob.open_]] J mixed J J J J J
    ⟨⟨[⟨0,fun _=>M (Z b 0),none⟩],_,0,1,J,⟨(fun _=>J),aZ⟩,J,J,J,J,J,fun _ sg _ _=>ai J (mt J)⟩,
    ⟨⟨[⟨0,fun _=>M (Z b 0),none⟩],_,0,0,J,⟨(fun _=>J),aZ⟩,J,J,J,J,J,fun _ sg _ _=>ai J (mt J)⟩,
    ⟨⟨[⟨58,fun _=>M (Z b 0),some 1⟩],_,0,0,J,⟨(fun _=>J),aZ⟩,J,J,J,J,J,fun _ sg _ _=>ai J (aO (D J))⟩,
    ⟨⟨[⟨59,fun _=>M (Z b 0),some 2⟩],_,0,0,J,⟨(fun _=>J),aZ⟩,J,J,J,J,J,fun _ sg _ _=>ai J (q9 17 gN J J J)⟩,
    ⟨⟨[⟨60,fun _=>M (Z b 17),some 3⟩],_,0,0,J,⟨(fun _=>J),aZ⟩,J,J,J,J,J,py (fun sg=>ai J (nF cu (fF mS) (.head _) J (D J)))⟩,
    ⟨⟨[⟨0,fun _=>M (Z b 0),none⟩],_,0,0,J,⟨(fun _=>J),aZ⟩,J,J,J,J,J,fun _ sg _ _=>ai J (mt J)⟩,
    ⟨⟨[⟨62,fun _=>M (Z b 0),some 5⟩],_,0,0,J,⟨(fun _=>J),aZ⟩,J,J,J,J,J,fun _ sg _ _=>ai J (aO (D J))⟩,
    ⟨⟨[⟨63,fun _=>M (Z b 0),some 6⟩],_,0,0,J,⟨(fun _=>J),aZ⟩,J,J,J,J,J,fun _ sg _ _=>ai J (q9 15 kh J J J)⟩,
    ⟨⟨[⟨64,fun _=>M (Z b 15),some 7⟩],_,0,0,J,⟨(fun _=>J),aZ⟩,J,J,J,J,J,py (fun sg=>ai J (aL (r:=rH cG [(1,ay l1 c ob.kinds.length),(2,ay l2 c1 ob.open_.length)]) (x:=cR ob (ay l3 c2 ob.result.length)) cu J J (fF lz) (.head _) (D J)))⟩,
    ⟨⟨[⟨6,fun _=>tD bV e,none⟩],_,0,0,J,⟨(fun _=>J),aZ⟩,J,J,J,J,J,fun _ sg _ _=>ai J (mt J)⟩,
    ⟨⟨[⟨65,fun _=>tD vG ob.a_,some 8⟩,⟨66,fun _=>tD bV e,some 9⟩],_,0,0,J,⟨(fun _=>J),(fun _=>J),aZ⟩,J,J,J,J,J,fun _ sg _ _=>ai J (B3 df bB J J J q_e2)⟩,
    ⟨⟨[⟨67,fun _=>ck bV e2,some 10⟩],_,0,0,J,⟨(fun _=>J),aZ⟩,J,J,J,J,J,fun _ sg _ _=>ai J (yT bB J J)⟩,
    ⟨⟨[⟨68,fun _=>tD bV e2,some 11⟩],_,0,0,J,⟨(fun _=>J),aZ⟩,J,J,J,J,J,fun _ sg _ _=>ai J (aI (r:=bV) (ys:=[e2]) (xs:=[.tmp 68]) df bB J J J J J ⟨(D J),aZ⟩)⟩,
    ⟨⟨[⟨61,fun _=>M (ay l3 c2 ob.result.length),some 4⟩,⟨69,fun _=>tD vG ([e2]),some 12⟩],_,J,⟨(fun _=>J),(fun _=>J),aZ⟩,J,J,J,fun sg=>cP J (EffOK.fr3 (rr bB J J J J df J (D J) (D J) q_l9))⟩,
    aZ⟩⟩⟩⟩⟩⟩⟩⟩⟩⟩⟩⟩⟩⟩ (fun sg=>?_)
   refine(show RG _ _ _ _ [_,_,_,_] _ from ?_);refine s (aO (D J))<|bh 17 gN J<|bY<|hU cu J (ut (hs' :=[(1,ay l1 c ob.kinds.length),(2,ay l2 c1 ob.open_.length)]) (jA _ _ _) ⟨.inr ⟨J,J⟩,.inr ⟨J,J⟩,aZ⟩ J) J (D J) (FI (D J)) ?_;refine(show RG _ _ _ _ [_,_,_,_] _ from ?_);refine aJ<|dd V hN J<|am<|ba<|ba<|ba ?_;exact aU (aH (ih (i+1) ({ob with result:=l9}:aq) l1 c l2 c1 ((sg 13).h 0).1 ((sg 13).h 0).2 ⟨da V,h⟩) (aX J))

def X1(b:Nat)(ix:OI) l{R}(h:fd l=some R):bK bd 167 [M (Z b 0)] (fx b l ix) (fun _:OI=>fM R.1) (fun j=>WS b R.2 j):=by
 refine bK.of Tryz.func167 J J J fun w0 S0=>?_;refine(show CG _ _ _ [bx (rH bQ [(1,ay (ix.h 0).1 (ix.h 0).2 l.kinds.length),(2,ay (ix.h 1).1 (ix.h 1).2 l.open_.length)]) 168 b l,tip nq 69 (ix.h 0).1 (ix.h 0).2 l.kinds,db bV 3 (ix.h 1).1 (ix.h 1).2 l.open_] _ from ?_);refine d<|bm<|bu<|ax J<|s (aO (D J))<|bh 3 iI J<|s (aL (r:=rH bQ [(1,ay (ix.h 0).1 (ix.h 0).2 l.kinds.length),(2,ay (ix.h 1).1 (ix.h 1).2 l.open_.length)]) (x:=l) dA J J (fF gx) (.head _) (D J))<|bz dA ie J fun b1=>bO dA aB J<|bj 3 J<|bu<|d<|aQ ju dE cu J<|bI df J<|s (eY (D J) hI)<|Q J<|ae J (bv gA cO J J) ?_;refine ae J (bq o0 J J)<|ae J (gp lb J)<|ae J (fun Y=>eY (bl J Y) hI)<|cm J<|Q J<|ae J (bv ju dE J J)<|ae J (bq cu J J)<|ae J (gp df J)<|ae J (bv gA cO J J)<|ae J (bq o0 J J)<|ae J (gp lb J)<|ae J (fun Y=>cW (bl J Y) (bl J Y))<|ae J (fun Y=>dD (bl J Y) hI)<|cm J<|aN J<|ax J<|s (aO (D J))<|bh 17 gN J<|ci false bV 3<|bY ?_;refine hU cu J (ut (hs' :=[(1,ay (ix.h 0).1 (ix.h 0).2 l.kinds.length),(2,ay (ix.h 1).1 (ix.h 1).2 l.open_.length)]) (mJ _ _) ⟨.inr ⟨J,J⟩,.inr ⟨J,J⟩,aZ⟩ J) J (D J) (FI (show aY _ _ _ (M HB)from tE)) ?_;refine(show RG _ _ _ _ [_,_,_,_] _ from ?_);refine bu<|aS<|aQ ju dE cu J<|bI df J<|s (bT hI)<|bu<|ak<|bo (k:=40) J fun hN=>bA<|dY<|gW<|gW<|gW ?_;refine aH (wy (aa:=fun ls i ob l1 c l2 c1 l3 c2=>(l.n.Keys.drop i=ls)/\dV l ls ob=some R) (Of:=fun _ i ob l1 c l2 c1 l3 c2=>[bx (rH cG [(1,ay l1 c ob.kinds.length),(2,ay l2 c1 ob.open_.length)]) 168 b (cR ob (ay l3 c2 ob.result.length)),tip nq 69 l1 c ob.kinds,db bV 3 l2 c1 ob.open_,db bV 3 l3 c2 ob.result]) (Gf:=fun _ i ob l1 c l2 c1 l3 c2=>[(0,M (Z b 0)),(3,ck aM l.n),(4,fM (((decide ((l.n.Keys.length:Int)<=(3:Int)))&&(decide ((l.n.Aggs.length:Int)<=(12:Int))))&&(decide ((0:Int)<(IntKind.i64.wrap ((l.n.Keys.length:Int)+(l.n.Aggs.length:Int))))))),(40,jK l.n.Keys),(41,kE l.n.Keys),(42,bH (i:Int))]) (fun i ob l1 c l2 c1 l3 c2 h=>?_) (fun e tl ih i ob l1 c l2 c1 l3 c2 h=>?_) l.n.Keys 0 ({l with result:=pu}:aq) (ix.h 0).1 (ix.h 0).2 (ix.h 1).1 (ix.h 1).2 none 0 ⟨J,h⟩) (aX J)
 ·obtain⟨V,h⟩:=h
  refine ez V J<|au<|aS<|aQ gA cO o0 J<|bI lb J<|s (bT hI)<|bu<|ak<|bo (k:=75) J fun hN1=>?_;refine bA ?_;refine aH (BZ (aa:=fun ls1 i1 ok ob1 l4 c3 l5 c4 l6 c5=>(l.n.Aggs.drop i1=ls1)/\cN ls1 ok ob1=some R) (Of:=fun _ i1 ok ob1 l4 c3 l5 c4 l6 c5=>[bx (rH cG [(1,ay l4 c3 ob1.kinds.length),(2,ay l5 c4 ob1.open_.length)]) 168 b (cR ob1 (ay l6 c5 ob1.result.length)),tip nq 69 l4 c3 ob1.kinds,db bV 3 l5 c4 ob1.open_,db bV 3 l6 c5 ob1.result]) (Gf:=fun _ i1 ok ob1 l4 c3 l5 c4 l6 c5=>[(0,M (Z b 0)),(4,fM ok),(75,em (fh) l.n.Aggs),(76,kE l.n.Aggs),(77,bH (i1:Int))]) (fun i1 ok ob1 l4 c3 l5 c4 l6 c5 h=>?_) (fun e1 tl1 ih1 i1 ok ob1 l4 c3 l5 c4 l6 c5 h=>?_) l.n.Aggs 0 (((decide ((l.n.Keys.length:Int)<=(3:Int)))&&(decide ((l.n.Aggs.length:Int)<=(12:Int))))&&(decide ((0:Int)<(IntKind.i64.wrap ((l.n.Keys.length:Int)+(l.n.Aggs.length:Int)))))) ob l1 c l2 c1 l3 c2 ⟨J,h⟩) (aX J)
  ·obtain⟨hx1,h⟩:=h
   exact ez hx1 J<|au<|ax J<|bf J<|ba<|ba<|ba<|ba<|so h▸cj J (sj [(l4,c3),(l5,c4),(l6,c5)]) J J (fun _ _ h=>h)
  ·obtain⟨hx1,h⟩:=h
   refine ew hx1 J<|aP<|ak<|d<|dg lb ig J (dJ hx1)<|bz ig tq J fun b2=>bO ig aB J<|bj 8 J<|bu<|d<|ca ?_;refine bu ?_;refine CI (aa:=fun ok1 k=>fz (cN tl1) ob1 ok1 k=some R) (Of:=fun ok1 k=>[bx (rH cG [(1,ay l4 c3 ob1.kinds.length),(2,ay l5 c4 ob1.open_.length)]) 168 b (cR ob1 (ay l6 c5 ob1.result.length)),tip nq 69 l4 c3 ob1.kinds,db bV 3 l5 c4 ob1.open_,db bV 3 l6 c5 ob1.result]) (Gf:=fun ok1 k=>[(0,M (Z b 0)),(4,fM ok1),(9,bH k),(75,em (fh) l.n.Aggs),(76,kE l.n.Aggs),(77,bH (i1:Int))]) (fun ok1 k h=>?_) (fun h2=>?_)
   ·skip
    refine aj<|Q J<|Q J<|s (aO (D J))<|bh 17 gN J<|s (nF cu (fF mS) (.head _) J (D J))<|Q J<|s (aI (r:=bV) (ys:=[k]) (xs:=[.tmp 139]) df bB J J J J J ⟨(D J),aZ⟩)<|kU<|bR h fun l7 q_l7 h=>bD bB J J J J df J J (D J) (D J) q_l7 fun l8 c6=>s (aO (D J))<|bh 17 gN J<|bY<|hU cu J (ut (hs' :=[(1,ay l4 c3 ob1.kinds.length),(2,ay l5 c4 ob1.open_.length)]) (jA _ _ _) ⟨.inr ⟨J,J⟩,.inr ⟨J,J⟩,aZ⟩ J) J (D J) (FI (D J)) ?_;refine(show RG _ _ _ _ [_,_,_,_] _ from ?_);refine aJ<|dd hx1 hN1 J<|am<|ba<|ba<|ba ?_;exact aU (aH (ih1 (i1+1) ok1 ({ob1 with result:=l7}:aq) l4 c3 l5 c4 l8 c6 ⟨da hx1,h⟩) (aX J))
   ·skip
    refine d<|aQ jx hM bB J<|bp J<|bW h J (fun h=>?_) (fun h=>?_)
    ·refine aj<|Q J<|Q J<|ae J (bv oe ma J J)<|ae J (fun Y=>fj f7 J dw J (bl J Y))<|ae J (bq nM J J)<|ae J (gp j5 J)<|ae J (gQ J)<|cm J<|d6 J<|aJ ?_;exact bE (h2 (ok&&((e1.Arg.Nodes.length:Int)==(0:Int))) (2:Int) h) (aX J)
    ·refine aP<|bR h fun r q_r h=>?_
     refine gO (ts:=[_,_,_,_,_,_,_,_,_,_,_,_]) mixed J J
      ⟨zZ 8 J J (oq oe ma J J),
      ⟨lK 0 gn J J,
      ⟨fP J J,
      ⟨ff 95 2 J J (aO (D J)),
      ⟨ff 96 3 J J (q9 15 kh J J J),
      ⟨ff 97 4 J J (aL (r:=rH cG [(1,ay l4 c3 ob1.kinds.length),(2,ay l5 c4 ob1.open_.length)]) (x:=cR ob1 (ay l6 c5 ob1.result.length)) cu J J (fF lz) (.head _) (D J)),
      ⟨ga 94 1 98 5 J J J (cD NP (DB _ _ q_r) ⟨(D J),(D J),aZ⟩),
      ⟨ff 99 6 J J (mt J),
      ⟨ff 92 7 J J (Jd J J),
      ⟨ff 92 7 J J (Jd J J),
      ⟨ff 100 8 J J (DX J),
      ⟨ff 101 9 J J (DX J),
      aZ⟩⟩⟩⟩⟩⟩⟩⟩⟩⟩⟩⟩ ?_
     refine au<|ax J<|Q J<|ae J (bX J)<|ae J (gQ J)<|cm J<|Q J<|ae J (bv jx hM J J)<|ae J (bq bB J J)<|ae J (fun Y=>dD (bl J Y) hI)<|cm J<|Q J<|ae J (bv jx hM J J)<|ae J (bq bB J J)<|ae J (fun Y=>eY (bl J Y) hI)<|cm J<|aN J<|d<|qE jx hM J ?_;refine dH bB J<|bu<|ak<|d<|bp J<|aN J<|fy h J (fun h=>?_) (fun h=>?_)
     ·refine aj<|Q J<|Q J<|ae J (bX J)<|ae J (gQ J)<|ae J (nQ J)<|cF J J J J (fun Y=>mt J)<|cF J J J J (fun Y=>di (bl J Y) hI)<|ae J (fun Y=>kL (bl J Y) (fun H=>(bl J (sd Y (sb H)))))<|cm J<|d6 J<|aJ<|al ?_;exact bE (h2 ((((ok&&(r.2==(0:Int)))&&(decide ((1:Int)<e1.Tag)))&&(decide (e1.Tag<=(5:Int))))&&((r.1==(2:Int))||(r.1==(0:Int)))) (2:Int) h) (aX J)
     ·refine d5 (aa:=fun x=>iM (cN tl1) e1 ok ob1 r x=some R) (Of:=fun x=>[bx (rH cG [(1,ay l4 c3 ob1.kinds.length),(2,ay l5 c4 ob1.open_.length)]) 168 b (cR ob1 (ay l6 c5 ob1.result.length)),tip nq 69 l4 c3 ob1.kinds,db bV 3 l5 c4 ob1.open_,db bV 3 l6 c5 ob1.result]) (Gf:=fun x=>[(0,M (Z b 0)),(4,fM (((ok&&(r.2==(0:Int)))&&(decide ((1:Int)<e1.Tag)))&&(decide (e1.Tag<=(5:Int))))),(9,bH 2),(10,bH r.1),(75,em (fh) l.n.Aggs),(76,kE l.n.Aggs),(77,bH (i1:Int)),(130,fM x)]) (fun x h=>?_) (fun K1=>?_)
      ·skip
       refine fy h J (fun h=>?_) (fun h=>?_)
       ·refine aj<|Q J<|d6 J<|aJ<|al ?_;exact bE (h2 (((ok&&(r.2==(0:Int)))&&(decide ((1:Int)<e1.Tag)))&&(decide (e1.Tag<=(5:Int)))) r.1 h) (aX J)
       ·refine bc<|al ?_;exact bE (h2 (((ok&&(r.2==(0:Int)))&&(decide ((1:Int)<e1.Tag)))&&(decide (e1.Tag<=(5:Int)))) (2:Int) h) (aX J)
      ·skip
       refine d<|bp J<|aN J<|fy h J (fun h=>?_) (fun h=>?_)
       ·refine bc ?_;exact bE (K1 (e1.Tag==(4:Int)) h) (aX J)
       ·refine aj<|bp J<|d6 J<|aJ ?_;exact bE (K1 (e1.Tag==(5:Int)) h) (aX J)
 ·obtain⟨V,h⟩:=h
  refine ew V J<|aP<|ak<|d<|dg df bB J (dJ V)<|aN J<|aS<|Q J<|s (fH (D J) hI) ?_;refine Q J<|aD J (bX J)<|aD J (bX J)<|aD J (fun Y=>aO (bl J Y))<|aD J (fun Y=>cr (n:=15) kh J (bl J Y) J)<|aD J (fun Y=>aL (r:=rH cG [(1,ay l1 c ob.kinds.length),(2,ay l2 c1 ob.open_.length)]) (x:=cR ob (ay l3 c2 ob.result.length)) cu J J (fF lz) (.head _) (bl J Y))<|aD J (gp df J)<|aD J (fun Y=>dB (bl J Y) (bl J Y))<|dG J<|bW h J (fun h=>?_) (fun h=>?_)
  ·exact d<|bm<|bM<|af<|cx<|af<|cx<|ba<|ba<|ba<|ba<|so h▸cj J (sj [(l1,c),(l2,c1),(l3,c2)]) J J (fun _ _ h=>h)
  ·refine fN<|bR h fun e2 q_e2 h=>bR h fun l9 q_l9 h=>?_
   refine ja 14 [tc (M (Z b 0)),tc (M (Z b 0)),tc (M (Z b 0)),tc (M (Z b 17)),tc (nO l3 c2 ob.result),tc (M (Z b 0)),tc (M (Z b 0)),tc (M (Z b 15)),tc (jK ob.a_),tc (bH e),tc (ck bV e2),tc (bH e2),tc (jK ([e2])),([13],fun ac=>M (ay ((ac.getD 0 ml).h 0).1 ((ac.getD 0 ml).h 0).2 l9.length))] [false,false,false,false,false,false,false,false,false,false,false,false,false,true] [fun _=>[bx (rH cG [(1,ay l1 c ob.kinds.length),(2,ay l2 c1 ob.open_.length)]) 168 b (cR ob (ay l3 c2 ob.result.length)),tip nq 69 l1 c ob.kinds,db bV 3 l2 c1 ob.open_,db bV 3 l3 c2 ob.result],fun sg=>[db bV 3 ((sg 13).h 0).1 ((sg 13).h 0).2 l9,bx (rH cG [(1,ay l1 c ob.kinds.length),(2,ay l2 c1 ob.open_.length)]) 168 b (cR ob (ay l3 c2 ob.result.length)),tip nq 69 l1 c ob.kinds,db bV 3 l2 c1 ob.open_]] J mixed J J J J J
    ⟨⟨[⟨0,fun _=>M (Z b 0),none⟩],_,0,1,J,⟨(fun _=>J),aZ⟩,J,J,J,J,J,fun _ sg _ _=>ai J (mt J)⟩,
    ⟨⟨[⟨0,fun _=>M (Z b 0),none⟩],_,0,0,J,⟨(fun _=>J),aZ⟩,J,J,J,J,J,fun _ sg _ _=>ai J (mt J)⟩,
    ⟨⟨[⟨58,fun _=>M (Z b 0),some 1⟩],_,0,0,J,⟨(fun _=>J),aZ⟩,J,J,J,J,J,fun _ sg _ _=>ai J (aO (D J))⟩,
    ⟨⟨[⟨59,fun _=>M (Z b 0),some 2⟩],_,0,0,J,⟨(fun _=>J),aZ⟩,J,J,J,J,J,fun _ sg _ _=>ai J (q9 17 gN J J J)⟩,
    ⟨⟨[⟨60,fun _=>M (Z b 17),some 3⟩],_,0,0,J,⟨(fun _=>J),aZ⟩,J,J,J,J,J,py (fun sg=>ai J (nF cu (fF mS) (.head _) J (D J)))⟩,
    ⟨⟨[⟨0,fun _=>M (Z b 0),none⟩],_,0,0,J,⟨(fun _=>J),aZ⟩,J,J,J,J,J,fun _ sg _ _=>ai J (mt J)⟩,
    ⟨⟨[⟨62,fun _=>M (Z b 0),some 5⟩],_,0,0,J,⟨(fun _=>J),aZ⟩,J,J,J,J,J,fun _ sg _ _=>ai J (aO (D J))⟩,
    ⟨⟨[⟨63,fun _=>M (Z b 0),some 6⟩],_,0,0,J,⟨(fun _=>J),aZ⟩,J,J,J,J,J,fun _ sg _ _=>ai J (q9 15 kh J J J)⟩,
    ⟨⟨[⟨64,fun _=>M (Z b 15),some 7⟩],_,0,0,J,⟨(fun _=>J),aZ⟩,J,J,J,J,J,py (fun sg=>ai J (aL (r:=rH cG [(1,ay l1 c ob.kinds.length),(2,ay l2 c1 ob.open_.length)]) (x:=cR ob (ay l3 c2 ob.result.length)) cu J J (fF lz) (.head _) (D J)))⟩,
    ⟨⟨[⟨6,fun _=>tD bV e,none⟩],_,0,0,J,⟨(fun _=>J),aZ⟩,J,J,J,J,J,fun _ sg _ _=>ai J (mt J)⟩,
    ⟨⟨[⟨65,fun _=>tD vG ob.a_,some 8⟩,⟨66,fun _=>tD bV e,some 9⟩],_,0,0,J,⟨(fun _=>J),(fun _=>J),aZ⟩,J,J,J,J,J,fun _ sg _ _=>ai J (B3 df bB J J J q_e2)⟩,
    ⟨⟨[⟨67,fun _=>ck bV e2,some 10⟩],_,0,0,J,⟨(fun _=>J),aZ⟩,J,J,J,J,J,fun _ sg _ _=>ai J (yT bB J J)⟩,
    ⟨⟨[⟨68,fun _=>tD bV e2,some 11⟩],_,0,0,J,⟨(fun _=>J),aZ⟩,J,J,J,J,J,fun _ sg _ _=>ai J (aI (r:=bV) (ys:=[e2]) (xs:=[.tmp 68]) df bB J J J J J ⟨(D J),aZ⟩)⟩,
    ⟨⟨[⟨61,fun _=>M (ay l3 c2 ob.result.length),some 4⟩,⟨69,fun _=>tD vG ([e2]),some 12⟩],_,J,⟨(fun _=>J),(fun _=>J),aZ⟩,J,J,J,fun sg=>cP J (EffOK.fr3 (rr bB J J J J df J (D J) (D J) q_l9))⟩,
    aZ⟩⟩⟩⟩⟩⟩⟩⟩⟩⟩⟩⟩⟩⟩ (fun sg=>?_)
   refine(show RG _ _ _ _ [_,_,_,_] _ from ?_);refine s (aO (D J))<|bh 17 gN J<|bY<|hU cu J (ut (hs' :=[(1,ay l1 c ob.kinds.length),(2,ay l2 c1 ob.open_.length)]) (jA _ _ _) ⟨.inr ⟨J,J⟩,.inr ⟨J,J⟩,aZ⟩ J) J (D J) (FI (D J)) ?_;refine(show RG _ _ _ _ [_,_,_,_] _ from ?_);refine aJ<|dd V hN J<|am<|ba<|ba<|ba ?_;exact aU (aH (ih (i+1) ({ob with result:=l9}:aq) l1 c l2 c1 ((sg 13).h 0).1 ((sg 13).h 0).2 ⟨da V,h⟩) (aX J))

def X0(b:Nat)(ix:OI) l{R}(h:eO l=some R):bK bd 168 [M (Z b 0)] (fx b l ix) (fun _:OI=>fM R.1) (fun j=>fx b R.2 j):=by
 refine bK.of Tryz.func168 J J J fun w0 S0=>?_;refine(show CG _ _ _ [bx (rH bQ [(1,ay (ix.h 0).1 (ix.h 0).2 l.kinds.length),(2,ay (ix.h 1).1 (ix.h 1).2 l.open_.length)]) 168 b l,tip nq 69 (ix.h 0).1 (ix.h 0).2 l.kinds,db bV 3 (ix.h 1).1 (ix.h 1).2 l.open_] _ from ?_);refine d<|bm<|bu<|ax J<|bR h fun r q_r h=>br (EffOK.fr2 (EffOK.fr2 (EffOK.fr2 (aE (xs:=[.tmp 6]) (ts:=[M (Z b 0)]) (fx b l ix) _ J V1 (X1 b ix l q_r) ⟨(D J),aZ⟩ (fun _=>J))))) J fun i=>?_;refine(show RG _ _ _ _ [_,_,_,_] ((7,fM r.1)::_)from ?_);refine aN J<|aS<|Q J<|s (fG (D J))<|bW h J (fun h=>?_) (fun h=>?_)
 ·exact d<|bm<|bM<|af<|ba<|dq<|am<|vW (r' :=rH bQ [(1,ay (i.h 0).1 (i.h 0).2 r.2.kinds.length),(2,ay (i.h 1).1 (i.h 1).2 r.2.open_.length)]) (x' :=r.2) (fun _ _ _ ho h=>SN h (fun h=>jy (qk ho (.head _)) h))<|am<|aV<|aT<|aT<|aT<|so h▸cj J i J J (fun _ _ h=>h)
 ·refine fN<|aS<|Q J<|s (aO (D J))<|bh 3 iI J<|bh 11 gA J<|s (aL (r:=rH cG [(1,ay (i.h 0).1 (i.h 0).2 r.2.kinds.length),(2,ay (i.h 1).1 (i.h 1).2 r.2.open_.length)]) (x:=cR r.2 (ay (i.h 2).1 (i.h 2).2 r.2.result.length)) o0 J J (fF (fq yu cO)) (.head _) (D J))<|bI lb J<|s (bT hI)<|bu<|ak<|bo (k:=14) J fun hN=>bA ?_;refine aH (wy (aa:=fun ls i1 ob l1 c l2 c1 l3 c2=>(r.2.n.Aggs.drop i1=ls)/\gc ls i1 ob=some R) (Of:=fun _ i1 ob l1 c l2 c1 l3 c2=>[bx (rH cG [(1,ay l1 c ob.kinds.length),(2,ay l2 c1 ob.open_.length)]) 168 b (cR ob (ay l3 c2 ob.result.length)),tip nq 69 l1 c ob.kinds,db bV 3 l2 c1 ob.open_,db bV 3 l3 c2 ob.result]) (Gf:=fun _ i1 ob l1 c l2 c1 l3 c2=>[(0,M (Z b 0)),(14,em (fh) r.2.n.Aggs),(15,kE r.2.n.Aggs),(16,bH (i1:Int))]) (fun i1 ob l1 c l2 c1 l3 c2 h=>?_) (fun e tl ih i1 ob l1 c l2 c1 l3 c2 h=>?_) r.2.n.Aggs 0 r.2 (i.h 0).1 (i.h 0).2 (i.h 1).1 (i.h 1).2 (i.h 2).1 (i.h 2).2 ⟨J,h⟩) (aX J)
  ·obtain⟨V,h⟩:=h
   refine ez V J<|au<|d<|bm<|bM<|ba<|dq<|am<|vW (r' :=rH bQ [(1,ay l1 c ob.kinds.length),(2,ay l2 c1 ob.open_.length)]) (x' :=ob) (fun _ _ _ ho h=>SN h (fun h=>jy (qk ho (.head _)) h))<|am ?_;exact aV<|aT<|aT<|aT<|so h▸cj J (sj [(l1,c),(l2,c1)]) J J (fun _ _ h=>h)
  ·obtain⟨V,h⟩:=h
   refine ew V J<|aP<|ak<|ax J<|dg lb ig J (dJ V)<|bz ig tq J fun b1=>d6 J<|bO ig aB J<|bj 5 J<|bu<|aP ?_;refine aj<|aQ jx hM bB J<|bp J<|bW h J (fun h=>?_) (fun h=>?_)
   ·refine bR h fun e1 q_e1 h=>?_
    refine qN 13 (ts:=[M (Z b 0),M (Z b 0),M (Z b 17),nO l3 c2 ob.result,M (Z b 0),M (Z b 0),M (Z b 3),M (Z b 10),jK ob.n.Keys,kE ob.n.Keys,bH (i1:Int),bH (IntKind.i64.wrap ((ob.n.Keys.length:Int)+(i1:Int))),M (Az l3 ((IntKind.i64.wrap ((ob.n.Keys.length:Int)+(i1:Int))).toNat*1+0))]) mixed J J J
     ⟨fP J J,
     ⟨ff 24 0 J J (aO (D J)),
     ⟨ff 25 1 J J (q9 17 gN J J J),
     ⟨ff 26 2 J J (nF cu (fF mS) (.head _) J (D J)),
     ⟨fP J J,
     ⟨ff 28 4 J J (aO (D J)),
     ⟨ff 29 5 J J (q9 3 iI J J J),
     ⟨ff 30 6 J J (q9 10 ju J J J),
     ⟨ff 31 7 J J (aL (r:=rH cG [(1,ay l1 c ob.kinds.length),(2,ay l2 c1 ob.open_.length)]) (x:=cR ob (ay l3 c2 ob.result.length)) cu J J (fF (fq yu dE)) (.head _) (D J)),
     ⟨ff 32 8 J J (ST df J),
     ⟨fP J J,
     ⟨ga 33 9 34 10 J J J (cW (D J) (D J)),
     ⟨ga 27 3 35 11 J J J (eH df bB (.tail _ (.tail _ (.tail _ (.head _)))) (D J) (D J) q_e1),
     aZ⟩⟩⟩⟩⟩⟩⟩⟩⟩⟩⟩⟩⟩ ?_
    refine kU<|bR h fun st q_st h=>zf bB J aB J q_e1 (so q_st) (D J) hI<|rs (u9 (so q_st)) 27 J<|Ft (O' :=[db bV 3 l3 c2 st,bx (rH cG [(1,ay l1 c ob.kinds.length),(2,ay l2 c1 ob.open_.length)]) 168 b (cR ob (ay l3 c2 st.length)),tip nq 69 l1 c ob.kinds,db bV 3 l2 c1 ob.open_]) (by rw [u9 (so q_st)])<|aJ<|dd V hN J<|ba<|ba<|ba ?_;exact aU (aH (ih (i1+1) ({ob with result:=st}:aq) l1 c l2 c1 l3 c2 ⟨da V,h⟩) (aX J))
   ·refine bc<|dd V hN J ?_;exact aU (aH (ih (i1+1) ob l1 c l2 c1 l3 c2 ⟨da V,h⟩) (aX J))

end Go.Proofs.YtdohlidddcgfjaaGreat

