/- cE of this claim: P5. -/
import Derived.Test.YtdohlidddcgfjaaGreatFcT
import Derived.Test.YtdohlidddcgfjaaGreatFcP4
set_option linter.all false
namespace Go.Proofs.YtdohlidddcgfjaaGreat
open Go
set_option maxRecDepth 100000

def XZ(b:Nat)(ix:OI) l{R}(h:d7 l=some R):bK bd 169 [M (Z b 0)] (fx b l ix) (fun _:OI=>fM R.1) (fun j=>fx b R.2 j):=by
 refine bK.of Tryz.func169 J J J fun w0 S0=>?_;refine(show CG _ _ _ [bx (rH bQ [(1,ay (ix.h 0).1 (ix.h 0).2 l.kinds.length),(2,ay (ix.h 1).1 (ix.h 1).2 l.open_.length)]) 168 b l,tip nq 69 (ix.h 0).1 (ix.h 0).2 l.kinds,db bV 3 (ix.h 1).1 (ix.h 1).2 l.open_] _ from ?_);refine d<|bm<|bu<|ax J<|s (aO (D J))<|bh 3 iI J<|s (aL (r:=rH bQ [(1,ay (ix.h 0).1 (ix.h 0).2 l.kinds.length),(2,ay (ix.h 1).1 (ix.h 1).2 l.open_.length)]) (x:=l) dA J J (fF gx) (.head _) (D J))<|bz dA ie J fun b1=>bO dA aB J<|bj 3 J<|bu<|d<|aQ ju dE cu J<|bI df J<|aN J ?_;refine aP<|bR h fun e q_e h=>?_
 refine gO (ts:=[_,_,_,_,_,_,_,_,_,_,_,_,_,_,_,_,_,_,_,_,_,_,_,_,_,_,_,_,_,_,_,_,_,_]) mixed J J
  ⟨fP J J,
  ⟨ff 18 0 J J (aO (D J)),
  ⟨ff 19 1 J J (q9 0 Iv J J J),
  ⟨ff 20 2 J J (aL (r:=rH bQ [(1,ay (ix.h 0).1 (ix.h 0).2 l.kinds.length),(2,ay (ix.h 1).1 (ix.h 1).2 l.open_.length)]) (x:=l) qe J J (fF Cr) (.head _) (D J)),
  ⟨zZ 3 J J (oq jw fS J J),
  ⟨lK 4 bB J J,
  ⟨ga 21 3 23 5 J J J (B3 j4 dA J J J q_e),
  ⟨ff 24 6 J J (oq ft cB J J),
  ⟨lK 7 bB J J,
  ⟨ff 26 8 J J (YS J),
  ⟨ff 27 9 J J (mt J),
  ⟨tt 4 28 10 J J J (dX J J J J (fun Y=>mt J)),
  ⟨km 29 11 28 10 J J J (dX J J J J (fun Y=>eY (bl J Y) hI)),
  ⟨ga 28 10 30 12 J J J (PR J J),
  ⟨ff 31 13 J J (mt J),
  ⟨tt 3 32 14 J J J (dX J J J J (fun Y=>oq gA cO J J)),
  ⟨km 33 15 32 14 J J J (dX J J J J (fun Y=>ej o0 J J (bl J Y))),
  ⟨km 34 16 32 14 J J J (dX J J J J (fun Y=>eS lb (bl J Y))),
  ⟨km 35 17 32 14 J J J (dX J J J J (fun Y=>eY (bl J Y) hI)),
  ⟨ga 32 14 36 18 J J J (PR J J),
  ⟨ff 37 19 J J (mt J),
  ⟨tt 4 38 20 J J J (dX J J J J (fun Y=>mt J)),
  ⟨tt 3 38 20 J J J (dX J J J J (fun Y=>oq gA cO J J)),
  ⟨km 40 22 38 20 J J J (dX J J J J (fun Y=>ej o0 J J (bl J Y))),
  ⟨km 41 23 38 20 J J J (dX J J J J (fun Y=>eS lb (bl J Y))),
  ⟨CP 39 21 42 24 38 20 J J J J (dX J J J J (fun Y=>cW (bl J Y) (bl J Y))),
  ⟨tt 0 38 20 J J J (dX J J J J (fun Y=>mt J)),
  ⟨km 44 26 38 20 J J J (dX J J J J (fun Y=>aO (bl J Y))),
  ⟨km 45 27 38 20 J J J (dX J J J J (fun Y=>cr (n:=15) kh J (bl J Y) J)),
  ⟨km 46 28 38 20 J J J (dX J J J J (fun Y=>aL (r:=rH bQ [(1,ay (ix.h 0).1 (ix.h 0).2 l.kinds.length),(2,ay (ix.h 1).1 (ix.h 1).2 l.open_.length)]) (x:=l) cu J J (fF qt) (.head _) (bl J Y))),
  ⟨km 47 29 38 20 J J J (dX J J J J (fun Y=>eS df (bl J Y))),
  ⟨CP 43 25 48 30 38 20 J J J J (dX J J J J (fun Y=>di (bl J Y) (bl J Y))),
  ⟨ga 38 20 49 31 J J J (PR J J),
  ⟨ff 50 32 J J (DX J),
  aZ⟩⟩⟩⟩⟩⟩⟩⟩⟩⟩⟩⟩⟩⟩⟩⟩⟩⟩⟩⟩⟩⟩⟩⟩⟩⟩⟩⟩⟩⟩⟩⟩⟩⟩ ?_
 refine au<|aS<|Q J<|s (fG (D J))<|bW h J (fun h=>?_) (fun h=>?_)
 ·exact d<|bm<|bM<|af<|aT<|aT<|aT<|so h▸cj J ix J J (fun _ _ h=>h)
 ·refine fN<|ax J<|Q J<|s (aO (D J))<|bh 15 kh J<|s (aL (r:=rH bQ [(1,ay (ix.h 0).1 (ix.h 0).2 l.kinds.length),(2,ay (ix.h 1).1 (ix.h 1).2 l.open_.length)]) (x:=l) cu J J (fF qt) (.head _) (D J))<|ot h Sm (Kx _) (cy J) fun r h l1 c=>s (aO (D J))<|bh 17 gN J<|bY<|hU cu J (ut (hs' :=[(1,ay (ix.h 0).1 (ix.h 0).2 l.kinds.length),(2,ay (ix.h 1).1 (ix.h 1).2 l.open_.length)]) (mJ _ _) ⟨.inr ⟨J,J⟩,.inr ⟨J,J⟩,aZ⟩ J) J (D J) (FI (D J)) ?_;refine(show RG _ _ _ _ [_,_,_,_] _ from ?_);refine bu<|aS<|aQ ju dE cu J<|bI df J<|s (bT hI)<|bu<|ak<|bo (k:=62) J fun hN=>bA<|dY<|gW<|gW<|gW ?_;refine aH (uS (aa:=fun ls i ok=>(l.n.Keys.drop i=ls)/\eP l r ls i ok=some R) (Of:=fun _ i ok=>[bx (rH cG [(1,ay (ix.h 0).1 (ix.h 0).2 l.kinds.length),(2,ay (ix.h 1).1 (ix.h 1).2 l.open_.length)]) 168 b (cR l (ay l1 c r.length)),tip nq 69 (ix.h 0).1 (ix.h 0).2 l.kinds,db bV 3 (ix.h 1).1 (ix.h 1).2 l.open_,db bV 3 l1 c r]) (Gf:=fun _ i ok=>[(0,M (Z b 0)),(3,ck aM l.n),(4,kE l.n.Keys),(5,fM ok),(62,jK l.n.Keys),(63,kE l.n.Keys),(64,bH (i:Int))]) (fun i ok h=>?_) (fun e1 tl ih i ok h=>?_) l.n.Keys 0 ((((e.Op==(9:Int))&&(decide ((l.n.Keys.length:Int)<=(3:Int))))&&(decide ((l.n.Aggs.length:Int)<=(12:Int))))&&((IntKind.i64.wrap ((l.n.Keys.length:Int)+(l.n.Aggs.length:Int)))==(l.a_.length:Int))) ⟨J,h⟩) (aX J)
  ·obtain⟨V,h⟩:=h
   refine ez V J<|au<|aS<|aQ gA cO o0 J<|bI lb J<|s (bT hI)<|bu<|ak<|bo (k:=87) J fun hN1=>?_;refine bA ?_;refine aH (BZ (aa:=fun ls1 i1 ok1 ob l2 c1 l3 c2 l4 c3=>(l.n.Aggs.drop i1=ls1)/\cz l ls1 i1 ok1 ob=some R) (Of:=fun _ i1 ok1 ob l2 c1 l3 c2 l4 c3=>[bx (rH cG [(1,ay l2 c1 ob.kinds.length),(2,ay l3 c2 ob.open_.length)]) 168 b (cR ob (ay l4 c3 ob.result.length)),tip nq 69 l2 c1 ob.kinds,db bV 3 l3 c2 ob.open_,db bV 3 l4 c3 ob.result]) (Gf:=fun _ i1 ok1 ob l2 c1 l3 c2 l4 c3=>[(0,M (Z b 0)),(4,kE l.n.Keys),(5,fM ok1),(87,em (fh) l.n.Aggs),(88,kE l.n.Aggs),(89,bH (i1:Int))]) (fun i1 ok1 ob l2 c1 l3 c2 l4 c3 h=>?_) (fun e2 tl1 ih1 i1 ok1 ob l2 c1 l3 c2 l4 c3 h=>?_) l.n.Aggs 0 ok ({l with result:=r}:aq) (ix.h 0).1 (ix.h 0).2 (ix.h 1).1 (ix.h 1).2 l1 c ⟨J,h⟩) (aX J)
   ·obtain⟨hx1,h⟩:=h
    refine ez hx1 J<|au<|ax J<|bf J<|ba<|dq<|am<|vW (r' :=rH bQ [(1,ay l2 c1 ob.kinds.length),(2,ay l3 c2 ob.open_.length)]) (x' :=ob) (fun _ _ _ ho h=>SN h (fun h=>jy (qk ho (.head _)) h)) ?_;exact am<|aV<|aT<|aT<|aT<|so h▸cj J (sj [(l2,c1),(l3,c2)]) J J (fun _ _ h=>h)
   ·obtain⟨hx1,h⟩:=h
    refine ew hx1 J<|aP<|ak<|ax J<|dg lb ig J (dJ hx1)<|bz ig tq J fun b2=>d6 J<|bO ig aB J<|bj 9 J<|bu<|aP ?_;refine aj<|Q J<|s (aO (D J))<|bh 15 kh J<|s (aL (r:=rH cG [(1,ay l2 c1 ob.kinds.length),(2,ay l3 c2 ob.open_.length)]) (x:=cR ob (ay l4 c3 ob.result.length)) cu J J (fF lz) (.head _) (D J))<|Q J<|Q J<|s (cW (D J) (D J))<|bR h fun e3 q_e3 h=>dg df bB J q_e3<|aN J<|ax J<|Q J<|ae J (bv oe ma J J)<|ae J (fun Y=>fj f7 J dw J (bl J Y))<|ae J (bq nM J J)<|ae J (gp j5 J)<|ae J (gQ J)<|cm J ?_;refine aN J<|d<|aQ jx hM bB J<|bu<|ak ?_;refine d5 (aa:=fun x=>gj l (cz l tl1) i1 e2 ok1 ob e3 x=some R) (Of:=fun x=>[bx (rH cG [(1,ay l2 c1 ob.kinds.length),(2,ay l3 c2 ob.open_.length)]) 168 b (cR ob (ay l4 c3 ob.result.length)),tip nq 69 l2 c1 ob.kinds,db bV 3 l3 c2 ob.open_,db bV 3 l4 c3 ob.result]) (Gf:=fun x=>[(0,M (Z b 0)),(4,kE l.n.Keys),(5,fM (ok1&&((e2.Arg.Nodes.length:Int)==(0:Int)))),(8,bH (i1:Int)),(10,bH e3),(87,em (fh) l.n.Aggs),(88,kE l.n.Aggs),(89,bH (i1:Int)),(112,bH e2.Tag),(113,fM x)]) (fun x h=>?_) (fun h2=>?_)
    ·skip
     refine fy h J (fun h=>?_) (fun h=>?_)
     ·refine aj<|Q J<|Q J<|ae J (bX J)<|ae J (gQ J)<|cm J<|d6 J<|aJ<|al<|dd hx1 hN1 J ?_;exact aU (aH (ih1 (i1+1) ((ok1&&((e2.Arg.Nodes.length:Int)==(0:Int)))&&(e3==(2:Int))) ob l2 c1 l3 c2 l4 c3 ⟨da hx1,h⟩) (aX J))
     ·refine d<|bp J<|aN J<|fy h J (fun h=>?_) (fun h=>?_)
      ·refine ax J<|Q J<|ae J (bX J)<|ae J (gQ J)<|cm J<|aN J<|aj<|Q J<|s (aO (D J))<|bh 17 gN J<|s (nF cu (fF mS) (.head _) J (D J))<|Q J<|Q J<|s (cW (D J) (D J))<|bR h fun e4 q_e4 h=>s (eH df bB (.tail _ (.tail _ (.tail _ (.head _)))) (D J) (D J) q_e4)<|kU<|bR h fun st q_st h=>zf bB J aB J q_e4 (so q_st) (D J) hI<|rs (u9 (so q_st)) 131 J ?_;refine Ft (O' :=[db bV 3 l4 c3 st,bx (rH cG [(1,ay l2 c1 ob.kinds.length),(2,ay l3 c2 ob.open_.length)]) 168 b (cR ob (ay l4 c3 st.length)),tip nq 69 l2 c1 ob.kinds,db bV 3 l3 c2 ob.open_]) (by rw [u9 (so q_st)])<|aJ<|al<|dd hx1 hN1 J<|ba<|ba<|ba ?_;exact aU (aH (ih1 (i1+1) ((ok1&&((e2.Arg.Nodes.length:Int)==(0:Int)))&&(e3==(4:Int))) ({ob with result:=st}:aq) l2 c1 l3 c2 l4 c3 ⟨da hx1,h⟩) (aX J))
      ·refine d5 (aa:=fun x1=>iN (cz l tl1) i1 e2 ok1 ob e3 x1=some R) (Of:=fun x1=>[bx (rH cG [(1,ay l2 c1 ob.kinds.length),(2,ay l3 c2 ob.open_.length)]) 168 b (cR ob (ay l4 c3 ob.result.length)),tip nq 69 l2 c1 ob.kinds,db bV 3 l3 c2 ob.open_,db bV 3 l4 c3 ob.result]) (Gf:=fun x1=>[(0,M (Z b 0)),(4,kE l.n.Keys),(5,fM (ok1&&((e2.Arg.Nodes.length:Int)==(0:Int)))),(10,bH e3),(87,em (fh) l.n.Aggs),(88,kE l.n.Aggs),(89,bH (i1:Int)),(136,fM x1)]) (fun x1 h=>?_) (fun K1=>?_)
       ·skip
        refine fy h J (fun h=>?_) (fun h=>?_)
        ·refine aj<|Q J<|Q J<|ae J (bX J)<|ae J (se J)<|cm J<|d6 J<|aJ<|al<|dd hx1 hN1 J ?_;exact aU (aH (ih1 (i1+1) ((ok1&&((e2.Arg.Nodes.length:Int)==(0:Int)))&&(e3 !=(4:Int))) ob l2 c1 l3 c2 l4 c3 ⟨da hx1,h⟩) (aX J))
        ·refine aj<|bm<|aJ<|al<|dd hx1 hN1 J ?_;exact aU (aH (ih1 (i1+1) false ob l2 c1 l3 c2 l4 c3 ⟨da hx1,h⟩) (aX J))
       ·skip
        refine d<|bp J<|aN J<|fy h J (fun h=>?_) (fun h=>?_)
        ·refine bc ?_;exact bE (K1 (e2.Tag==(4:Int)) h) (aX J)
        ·refine aj<|bp J<|d6 J<|aJ ?_;exact bE (K1 (e2.Tag==(5:Int)) h) (aX J)
    ·skip
     refine d<|bp J<|aN J<|fy h J (fun h=>?_) (fun h=>?_)
     ·refine bc ?_;exact bE (h2 (e2.Tag==(1:Int)) h) (aX J)
     ·refine aj<|bp J<|d6 J<|aJ ?_;exact bE (h2 (e2.Tag==(2:Int)) h) (aX J)
  ·obtain⟨V,h⟩:=h
   refine ew V J<|aP<|ak<|ax J<|dg df bB J (dJ V)<|d6 J<|aN J<|aj<|Q J<|Q J ?_;refine ae J (bX J)<|ae J (bX J)<|ae J (fun Y=>di (bl J Y) (bl J Y))<|cm J<|Q J<|bR h fun t q_t h=>ae J (bX J)<|ae J (fun Y=>aO (bl J Y))<|ae J (fun Y=>cr (n:=15) kh J (bl J Y) J)<|ae J (fun Y=>aL (r:=rH cG [(1,ay (ix.h 0).1 (ix.h 0).2 l.kinds.length),(2,ay (ix.h 1).1 (ix.h 1).2 l.open_.length)]) (x:=cR l (ay l1 c r.length)) cu J J (fF lz) (.head _) (bl J Y))<|ae J (bX J) ?_
   obtain⟨e5,h1t,h0t⟩:=og q_t
   have q_e5g:=fun H=>(h1t H).1
   refine ae J (fun Y=>fJ df bB J (bl J Y) (bl J Y) (q_e5g Y))<|ae J (bq bB J J)<|ae J (se J)<|s (co (D J) (fun H=>(bl J H)) (fun H=>(h1t H).2) h0t)<|d6 J<|aJ<|dd V hN J ?_;exact aU (aH (ih (i+1) t ⟨da V,h⟩) (aX J))

def XY(b:Nat)(ix:OI) l{R}(h:jk l=some R):bK bd 170 [M (Z b 0)] (fx b l ix) (fun _:OI=>fM R.1) (fun j=>fx b R.2 j):=by
 refine bK.of Tryz.func170 J J J fun w0 S0=>?_;refine(show CG _ _ _ [bx (rH bQ [(1,ay (ix.h 0).1 (ix.h 0).2 l.kinds.length),(2,ay (ix.h 1).1 (ix.h 1).2 l.open_.length)]) 168 b l,tip nq 69 (ix.h 0).1 (ix.h 0).2 l.kinds,db bV 3 (ix.h 1).1 (ix.h 1).2 l.open_] _ from ?_);refine d<|bm<|bu<|ax J<|s (aO (D J))<|bh 17 gN J<|ci false bV 3<|bY<|hU cu J (ut (hs' :=[(1,ay (ix.h 0).1 (ix.h 0).2 l.kinds.length),(2,ay (ix.h 1).1 (ix.h 1).2 l.open_.length)]) (mJ _ _) ⟨.inr ⟨J,J⟩,.inr ⟨J,J⟩,aZ⟩ J) J (D J) (FI (show aY _ _ _ (M HB)from tE)) ?_;refine(show RG _ _ _ _ [_,_,_,_] _ from ?_);refine bu<|aS<|Q J<|s (aO (D J))<|bh 3 iI J<|bh 12 oc J<|s (aL (r:=rH cG [(1,ay (ix.h 0).1 (ix.h 0).2 l.kinds.length),(2,ay (ix.h 1).1 (ix.h 1).2 l.open_.length)]) (x:=cR l (ay none 0 (pu.length))) wH J J (fF (fq yu io)) (.head _) (D J))<|bI qD J<|s (bT hI)<|bu<|ak<|bo (k:=14) J fun hN=>bA<|dY<|gW<|gW<|gW ?_;refine aH (wy (aa:=fun ls i ob l1 c l2 c1 l3 c2=>(l.n.Items.drop i=ls)/\fi ls ob=some R) (Of:=fun _ i ob l1 c l2 c1 l3 c2=>[bx (rH cG [(1,ay l1 c ob.kinds.length),(2,ay l2 c1 ob.open_.length)]) 168 b (cR ob (ay l3 c2 ob.result.length)),tip nq 69 l1 c ob.kinds,db bV 3 l2 c1 ob.open_,db bV 3 l3 c2 ob.result]) (Gf:=fun _ i ob l1 c l2 c1 l3 c2=>[(0,M (Z b 0)),(14,em (bN) l.n.Items),(15,kE l.n.Items),(16,bH (i:Int))]) (fun i ob l1 c l2 c1 l3 c2 h=>?_) (fun e tl ih i ob l1 c l2 c1 l3 c2 h=>?_) l.n.Items 0 ({l with result:=pu}:aq) (ix.h 0).1 (ix.h 0).2 (ix.h 1).1 (ix.h 1).2 none 0 ⟨J,h⟩) (aX J)
 ·obtain⟨V,h⟩:=h
  refine ez V J<|au<|ax J<|s (aO (D J))<|bh 17 gN J<|s (nF cu (fF mS) (.head _) J (D J))<|s (ir df (.tail _ (.tail _ (.tail _ (.head _)))) (D J))<|s (dD (D J) hI)<|aN J ?_;exact pd<|ba<|dq<|bP 45 J<|am<|vW (r' :=rH bQ [(1,ay l1 c ob.kinds.length),(2,ay l2 c1 ob.open_.length)]) (x' :=ob) (fun _ _ _ ho h=>SN h (fun h=>jy (qk ho (.head _)) h))<|am<|aV<|aT<|aT<|aT<|so h▸cj J (sj [(l1,c),(l2,c1)]) J J (fun _ _ h=>h)
 ·obtain⟨V,h⟩:=h
  refine ew V J<|aP<|ak<|d<|dg qD gn J (dJ V)<|bz gn qO J fun b1=>bO gn aB J<|bj 4 J<|bu<|aP<|bR h fun r q_r h=>?_
  refine gO (ts:=[_,_,_,_,_,_,_,_,_,_,_]) mixed J J
   ⟨zZ 4 J J (yT gn J J),
   ⟨fP J J,
   ⟨ff 22 1 J J (aO (D J)),
   ⟨ff 23 2 J J (q9 15 kh J J J),
   ⟨ff 24 3 J J (aL (r:=rH cG [(1,ay l1 c ob.kinds.length),(2,ay l2 c1 ob.open_.length)]) (x:=cR ob (ay l3 c2 ob.result.length)) cu J J (fF lz) (.head _) (D J)),
   ⟨ga 21 0 25 4 J J J (cD NP (DB _ _ q_r) ⟨(D J),(D J),aZ⟩),
   ⟨ff 26 5 J J (mt J),
   ⟨ff 20 6 J J (Jd J J),
   ⟨ff 20 6 J J (Jd J J),
   ⟨ff 27 7 J J (DX J),
   ⟨ff 28 8 J J (DX J),
   aZ⟩⟩⟩⟩⟩⟩⟩⟩⟩⟩⟩ ?_
  refine au<|aS<|Q J<|nP J<|bW h J (fun h=>?_) (fun h=>?_)
  ·exact d<|bm<|bM<|af<|cx<|af<|cx<|ba<|dq<|am<|vW (r' :=rH bQ [(1,ay l1 c ob.kinds.length),(2,ay l2 c1 ob.open_.length)]) (x' :=ob) (fun _ _ _ ho h=>SN h (fun h=>jy (qk ho (.head _)) h))<|am<|aV<|aT<|aT<|aT<|so h▸cj J (sj [(l1,c),(l2,c1)]) J J (fun _ _ h=>h)
  ·refine fN<|aj<|Q J<|Q J<|s (aO (D J))<|bh 17 gN J<|s (nF cu (fF mS) (.head _) J (D J))<|Q J<|s (aI (r:=bV) (ys:=[r.1]) (xs:=[.tmp 36]) df bB J J J J J ⟨(D J),aZ⟩)<|kU<|bR h fun l4 q_l4 h=>bD bB J J J J df J J (D J) (D J) q_l4 fun l5 c3=>s (aO (D J))<|bh 17 gN J<|bY<|hU cu J (ut (hs' :=[(1,ay l1 c ob.kinds.length),(2,ay l2 c1 ob.open_.length)]) (jA _ _ _) ⟨.inr ⟨J,J⟩,.inr ⟨J,J⟩,aZ⟩ J) J (D J) (FI (D J)) ?_;refine(show RG _ _ _ _ [_,_,_,_] _ from ?_);refine aJ<|dd V hN J<|am<|ba<|ba<|ba ?_;exact aU (aH (ih (i+1) ({ob with result:=l4}:aq) l1 c l2 c1 l5 c3 ⟨da V,h⟩) (aX J))

def XX(b:Nat)(ix:OI) l{R}(h:mC l=some R):bK bd 171 [M (Z b 0)] (fx b l ix) (fun _:OI=>fM R.1) (fun j=>fx b R.2 j):=by
 refine bK.of Tryz.func171 J J J fun w0 S0=>?_;refine(show CG _ _ _ [bx (rH bQ [(1,ay (ix.h 0).1 (ix.h 0).2 l.kinds.length),(2,ay (ix.h 1).1 (ix.h 1).2 l.open_.length)]) 168 b l,tip nq 69 (ix.h 0).1 (ix.h 0).2 l.kinds,db bV 3 (ix.h 1).1 (ix.h 1).2 l.open_] _ from ?_);refine d<|bm<|bu<|ax J<|Q J<|s (aO (D J))<|bh 15 kh J<|s (aL (r:=rH bQ [(1,ay (ix.h 0).1 (ix.h 0).2 l.kinds.length),(2,ay (ix.h 1).1 (ix.h 1).2 l.open_.length)]) (x:=l) cu J J (fF qt) (.head _) (D J))<|s (aO (D J))<|bh 17 gN J<|fK (dF cu J (pC (hs' :=[(1,ay (ix.h 0).1 (ix.h 0).2 l.kinds.length),(2,ay (ix.h 1).1 (ix.h 1).2 l.open_.length)]) ua ⟨.inr ⟨J,J⟩,.inr ⟨J,J⟩,aZ⟩ J) J (D J) (D J)) fun i=>?_;refine(show RG _ _ _ _ [_,_,_] _ from ?_);exact bu<|d<|bm<|bM<|aT<|aT<|aT<|so h▸cj J ix J J (fun _ _ h=>h)

def XW(b:Nat)(ix:OI) l{R}(h:jE l=some R):bK bd 172 [M (Z b 0)] (fx b l ix) (fun _:OI=>fM R.1) (fun j=>fx b R.2 j):=by
 refine bK.of Tryz.func172 J J J fun w0 S0=>?_;refine(show CG _ _ _ [bx (rH bQ [(1,ay (ix.h 0).1 (ix.h 0).2 l.kinds.length),(2,ay (ix.h 1).1 (ix.h 1).2 l.open_.length)]) 168 b l,tip nq 69 (ix.h 0).1 (ix.h 0).2 l.kinds,db bV 3 (ix.h 1).1 (ix.h 1).2 l.open_] _ from ?_);refine d<|bm<|bu<|aP<|aP ?_
 refine gO (ts:=[_,_,_,_,_,_,_,_,_,_,_]) mixed J J
  ⟨fP J J,
  ⟨ff 6 0 J J (aO (D J)),
  ⟨ff 7 1 J J (q9 15 kh J J J),
  ⟨ff 8 2 J J (aL (r:=rH bQ [(1,ay (ix.h 0).1 (ix.h 0).2 l.kinds.length),(2,ay (ix.h 1).1 (ix.h 1).2 l.open_.length)]) (x:=l) cu J J (fF qt) (.head _) (D J)),
  ⟨ff 9 3 J J (ST df J),
  ⟨fP J J,
  ⟨ff 11 5 J J (aO (D J)),
  ⟨ff 12 6 J J (q9 16 BI J J J),
  ⟨ff 13 7 J J (aL (r:=rH bQ [(1,ay (ix.h 0).1 (ix.h 0).2 l.kinds.length),(2,ay (ix.h 1).1 (ix.h 1).2 l.open_.length)]) (x:=l) cu J J (fF Hc) (.head _) (D J)),
  ⟨ff 14 8 J J (ST df J),
  ⟨ga 10 4 15 9 J J J (du (D J) (D J)),
  aZ⟩⟩⟩⟩⟩⟩⟩⟩⟩⟩⟩ ?_
 refine au<|fy h J (fun h=>?_) (fun h=>?_)
 ·exact d<|bm<|bM<|af<|aT<|aT<|aT<|so h▸cj J ix J J (fun _ _ h=>h)
 ·refine fN<|ax J<|s (aO (D J))<|bh 17 gN J<|ci false bV 3<|bY<|hU cu J (ut (hs' :=[(1,ay (ix.h 0).1 (ix.h 0).2 l.kinds.length),(2,ay (ix.h 1).1 (ix.h 1).2 l.open_.length)]) (mJ _ _) ⟨.inr ⟨J,J⟩,.inr ⟨J,J⟩,aZ⟩ J) J (D J) (FI (show aY _ _ _ (M HB)from tE)) ?_;refine(show RG _ _ _ _ [_,_,_,_] _ from ?_);refine bu<|aS<|Q J<|s (aO (D J))<|bh 15 kh J<|s (aL (r:=rH cG [(1,ay (ix.h 0).1 (ix.h 0).2 l.kinds.length),(2,ay (ix.h 1).1 (ix.h 1).2 l.open_.length)]) (x:=cR l (ay none 0 (pu.length))) cu J J (fF lz) (.head _) (D J))<|bI df J<|s (bT hI)<|bu<|ak<|bo (k:=23) J fun hN=>bA<|dY<|gW<|gW<|gW ?_;refine aH (wy (aa:=fun ls i ob l1 c l2 c1 l3 c2=>(l.a_.drop i=ls)/\dR ls i ob=some R) (Of:=fun _ i ob l1 c l2 c1 l3 c2=>[bx (rH cG [(1,ay l1 c ob.kinds.length),(2,ay l2 c1 ob.open_.length)]) 168 b (cR ob (ay l3 c2 ob.result.length)),tip nq 69 l1 c ob.kinds,db bV 3 l2 c1 ob.open_,db bV 3 l3 c2 ob.result]) (Gf:=fun _ i ob l1 c l2 c1 l3 c2=>[(0,M (Z b 0)),(23,jK l.a_),(24,kE l.a_),(25,bH (i:Int))]) (fun i ob l1 c l2 c1 l3 c2 h=>?_) (fun e tl ih i ob l1 c l2 c1 l3 c2 h=>?_) l.a_ 0 ({l with result:=pu}:aq) (ix.h 0).1 (ix.h 0).2 (ix.h 1).1 (ix.h 1).2 none 0 ⟨J,h⟩) (aX J)
  ·obtain⟨V,h⟩:=h
   refine ez V J<|au<|d<|bm<|bM<|ba<|dq<|am<|vW (r' :=rH bQ [(1,ay l1 c ob.kinds.length),(2,ay l2 c1 ob.open_.length)]) (x' :=ob) (fun _ _ _ ho h=>SN h (fun h=>jy (qk ho (.head _)) h))<|am ?_;exact aV<|aT<|aT<|aT<|so h▸cj J (sj [(l1,c),(l2,c1)]) J J (fun _ _ h=>h)
  ·obtain⟨V,h⟩:=h
   refine ew V J<|aP<|ak<|ax J<|dg df bB J (dJ V)<|d6 J<|aN J<|ax J ?_;refine s (aO (D J))<|bh 16 BI J<|s (aL (r:=rH cG [(1,ay l1 c ob.kinds.length),(2,ay l2 c1 ob.open_.length)]) (x:=cR ob (ay l3 c2 ob.result.length)) cu J J (fF Kq) (.head _) (D J))<|Q J<|bR h fun e1 q_e1 h=>dg df bB J q_e1<|aN J ?_;refine d5 (aa:=fun k=>gi (dR tl) i ob e1 k=some R) (Of:=fun k=>[bx (rH cG [(1,ay l1 c ob.kinds.length),(2,ay l2 c1 ob.open_.length)]) 168 b (cR ob (ay l3 c2 ob.result.length)),tip nq 69 l1 c ob.kinds,db bV 3 l2 c1 ob.open_,db bV 3 l3 c2 ob.result]) (Gf:=fun k=>[(0,M (Z b 0)),(4,bH k),(5,bH e1),(23,jK l.a_),(24,kE l.a_),(25,bH (i:Int))]) (fun k h=>?_) (fun h2=>?_)
   ·skip
    refine aS<|Q J<|nP J<|Q J<|ae J (bX J)<|ae J (bX J)<|ae J (fun Y=>du (bl J Y) (bl J Y))<|cm J<|bW h J (fun h=>?_) (fun h=>?_)
    ·exact d<|bm<|bM<|af<|cx<|af<|cx<|ba<|dq<|am<|vW (r' :=rH bQ [(1,ay l1 c ob.kinds.length),(2,ay l2 c1 ob.open_.length)]) (x' :=ob) (fun _ _ _ ho h=>SN h (fun h=>jy (qk ho (.head _)) h))<|am<|aV<|aT<|aT<|aT<|so h▸cj J (sj [(l1,c),(l2,c1)]) J J (fun _ _ h=>h)
    ·refine fN<|aj<|Q J<|Q J<|s (aO (D J))<|bh 17 gN J<|s (nF cu (fF mS) (.head _) J (D J))<|Q J<|s (aI (r:=bV) (ys:=[k]) (xs:=[.tmp 52]) df bB J J J J J ⟨(D J),aZ⟩)<|kU<|bR h fun l4 q_l4 h=>bD bB J J J J df J J (D J) (D J) q_l4 fun l5 c3=>s (aO (D J))<|bh 17 gN J<|bY<|hU cu J (ut (hs' :=[(1,ay l1 c ob.kinds.length),(2,ay l2 c1 ob.open_.length)]) (jA _ _ _) ⟨.inr ⟨J,J⟩,.inr ⟨J,J⟩,aZ⟩ J) J (D J) (FI (D J)) ?_;refine(show RG _ _ _ _ [_,_,_,_] _ from ?_);refine aJ<|dd V hN J<|am<|ba<|ba<|ba ?_;exact aU (aH (ih (i+1) ({ob with result:=l4}:aq) l1 c l2 c1 l5 c3 ⟨da V,h⟩) (aX J))
   ·skip
    refine ax J<|bp J<|bW h J (fun h=>?_) (fun h=>?_)
    ·refine aj<|Q J<|d6 J<|aJ ?_;exact bE (h2 e1 h) (aX J)
    ·refine bc ?_;exact bE (h2 e h) (aX J)

def Un ac f{R}(h:je ac f=some R):cX bd 238 [em (gy) ac,(mI bd Qb qX (fun(x:kF)=>f x))] (bH R):=by
 refine dK Tryz.func238 J<|d<|ca<|bu<|aS<|Q J<|bI rz J<|s (bT hI)<|bu<|ak<|bo (k:=6) J fun hN=>bA ?_;refine aH (eU (aa:=fun ls i=>(ac.drop i=ls)/\eF f ls i=some R) (Of:=fun _ i=>[]) (Gf:=fun _ i=>[(0,em (gy) ac),(1,(mI bd Qb qX (fun(x:kF)=>f x))),(7,kE ac),(8,bH (i:Int))]) (fun i h=>?_) (fun e tl ih i h=>?_) ac 0 ⟨J,h⟩) (aX J)
 ·obtain⟨V,h⟩:=h
  exact ez V J<|au<|d<|eg<|so h▸aA J J
 ·obtain⟨V,h⟩:=h
  refine ew V J<|aP<|ak<|ax J<|aN J<|ax J<|Q J<|Q J<|CT rz pA J (dJ V) ?_;refine dH pA J<|bR h fun r q_r h=>s (mO (args:=Qb) (res:=AZ) (f:=(fun(x:kF)=>f x)) (x:=((e):kF)) (D J) q_r ⟨(D J),aZ⟩)<|bW h J (fun h=>?_) (fun h=>?_)
  ·exact ax J<|bf J<|cx<|af<|cx<|so h▸aA J J
  ·refine bc<|dd V hN J ?_;exact aU (aH (ih (i+1) ⟨da V,h⟩) (aX J))

def Uz ac f{R}(h:fX ac f=some R):cX bd 207 [em (gy) ac,(mI bd Qb qX (fun(x:kF)=>f x))] (fM R):=by
 exact dK Tryz.func207 J<|d<|bm<|bu<|ax J<|Q J<|eE h aay (Un _ _) (cy J) fun r h=>s (dB (D J) hI)<|bf J<|so h▸aA J J

end Go.Proofs.YtdohlidddcgfjaaGreat

