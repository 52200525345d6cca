/- di of this claim: P8. -/
import Derived.Test.YtmogpgcfognefaaGreatDoorNdT
import Derived.Test.YtmogpgcfognefaaGreatDoorNdP7
set_option linter.all false
namespace Go.Proofs.YtmogpgcfognefaaGreatDoor
open Go
set_option maxRecDepth 100000

theorem Lg(p:(Option ci))(frag:Int){R:(List aS)}(h:ij p frag=some R):gk be 42 [tD qU p,bY frag] false aR 55 R:=by
 refine gk.of Tryz.func42 J J J fun w0 S0=>an<|cm false aR 55<|zo J (aP tE)<|al<|an<|ax J<|bM h fun p1 q_p1 h=>zo J (f9 (ht J) q_p1)<|zo J (bw rx jG J J)<|zo J (bw fY dp J J)<|zo J (bj nS J J)<|ax J<|bM h fun e q_e h=>zo J (gM kE fN J J J q_e)<|zo J (bj fN J J)<|aZ (r:=bR) (x:=IT) fN (fun _=>mu _) J fun b=>aE fN J ay J (ht J) (ht J)<|aW 5 J<|al ?_;refine an<|cm false aR 55<|zo J (aP tE)<|al<|an<|bM h fun r q_r h=>zo J (aH Yr (Ub q_r) trivial)<|aY J<|al<|ae<|an<|zo J (bw mO gJ J J)<|zo J (bj n8 J J)<|zo J (fU ib J)<|zo J (bk hI)<|al<|ap<|aT (k:=22) J fun hN=>?_;refine bE<|dW<|pB ?_;refine aJ (me (Z:=fun ls i out l c=>(e.Nodes.drop i=ls)∧cQ p e r ls out=some R) (Of:=fun _ i out l c=>[cY aR 55 l c out]) (Gf:=fun _ i out l c=>[(0,tD qU p),(5,bF bR e),(6,mU l c out),(7,PM (fun y:((Option dq)→Option aS)=>D9 be FI FG (fun(x:(Option dq))=>y x)) FH r),(22,eV (aA) e.Nodes),(23,gA e.Nodes),(24,bY (i:Int))]) (fun i out l c h=>?_) (fun e1 tl ih i out l c h=>?_) e.Nodes 0 ([]:List aS) none 0 ⟨J,h⟩) (aQ J)
 ·obtain⟨hx,h⟩:=h
  refine av<|an<|zo J (eu J J)<|al<|ae<|bu (ht J) (dh hx)<|bf ?_;refine ac (ac (aI ?_));refine ai<|an<|ax rfl<|aY rfl<|al<|aj ?_;cases so h;exact iu J J
 ·obtain⟨hx,h⟩:=h
  refine av<|an<|zo J (eu J J)<|al<|ae<|bt (ht J) (dg hx)<|dF<|ae<|ap<|an<|zo J (gM ib db J J J (dl hx))<|zo J (bj db J J)<|aZ (r:=aA) (x:=yF) db (fun _=>ev _) J fun b1=>aE db J ay J (ht J) (ht J)<|aW 9 J<|al<|an<|ax J ?_;refine zo J (bj db J J)<|zo J (cI (y:=(⟨p,e1,vj,vj⟩:dq)) Vm VK PN (⟨_,_,_,_,_,J,Mn,J,(ht J),⟨_,_,_,_,_,J,Mm,J,(ht J),J⟩⟩))<|vQ (ht J) J fun b2=>aY J<|al ?_;refine c0 (Z:=fun x=>eF e r (cQ p e r tl) e1 out x=some R) (Of:=fun x=>[cY aR 55 l c out,bx mw 170 b2 x]) (Gf:=fun x=>[(0,tD qU p),(5,bF bR e),(6,mU l c out),(7,PM (fun y:((Option dq)→Option aS)=>D9 be FI FG (fun(x:(Option dq))=>y x)) FH r),(9,bF aA e1),(10,tV (aN b2 0)),(22,eV (aA) e.Nodes),(23,gA e.Nodes),(24,bY (i:Int))]) (fun x h=>?_) (fun K=>?_)
  ·skip
   refine c0 (Z:=fun x1=>fW e r (cQ p e r tl) e1 out x1=some R) (Of:=fun x1=>[cY aR 55 l c out,bx mw 170 b2 x1]) (Gf:=fun x1=>[(0,tD qU p),(5,bF bR e),(6,mU l c out),(7,PM (fun y:((Option dq)→Option aS)=>D9 be FI FG (fun(x:(Option dq))=>y x)) FH r),(9,bF aA e1),(10,tV (aN b2 0)),(22,eV (aA) e.Nodes),(23,gA e.Nodes),(24,bY (i:Int))]) (fun x1 h=>?_) (fun K1=>?_)
   ·skip
    refine an<|zo J (cI (y:=wi) cD tI eo (⟨_,_,_,_,_,J,fO,J,hI,J⟩))<|aZ (r:=aR) (x:=vj) cD (fun _=>eo _) J fun b3=>aE cD J ay J (ht J) (ht J)<|al ?_;refine c0 (Z:=fun x2=>fV (cQ p e r tl) out x2=some R) (Of:=fun x2=>[cY aR 55 l c out,bx aR 55 b3 x2]) (Gf:=fun x2=>[(0,tD qU p),(5,bF bR e),(6,mU l c out),(7,PM (fun y:((Option dq)→Option aS)=>D9 be FI FG (fun(x:(Option dq))=>y x)) FH r),(11,tV (aN b3 0)),(22,eV (aA) e.Nodes),(23,gA e.Nodes),(24,bY (i:Int))]) (fun x2 h=>?_) (fun K2=>?_)
    ·skip
     refine ah<|ax J<|zo J (bl cD J J bO (.tail _ (.head _)) (ht J))<|zo J (ba (r:=aR) (ys:=[x2]) (xs:=[.tmp 65]) kD cD J J J J J ⟨(ht J),bm⟩)<|bM h fun out1 q_out1 h=>cn cD J J J J kD J J (ht J) (ht J) q_out1 fun l1 c1=>aY J<|aC<|af<|ai<|ah<|zo rfl (je (cx hx hN) rfl)<|ax rfl<|aC<|aU<|aX ?_;exact aM (aJ (ih (i+1) out1 l1 c1 ⟨cw hx,h⟩) (aQ J))
    ·skip
     refine an<|zo J (bw mN gj J J)<|zo J (bj br J J)<|zo J (eQ J)<|al<|cz h J (fun h=>?_) (fun h=>?_)
     ·refine ah<|ax J<|zo J (bw eh cj J J)<|zo J (bj br J J)<|zo J (Ba (γ:=(fun y:((Option dq)→Option aS)=>D9 be FI FG (fun(x:(Option dq))=>y x))) (z:=(fun _=>none)) BA (ir oT) UY (fun _=>Qa) (ht J) (sE (ht J)))<|ax J<|fD<|aW 62 J<|Sv 62 J<|bM h fun r1 q_r1 h=>zo J (MK (args:=FI) (res:=FG) (f:=(fun(x:(Option dq))=>((rW r e1.Op).getD (fun _=>none)) x)) (x:=(((some x1)):(Option dq))) (ht J) q_r1 ⟨(ht J),bm⟩)<|aE cD J ay J (ht J) (ht J)<|aC<|aU ?_;exact bz (K2 r1 h) (aQ J)
     ·refine aO<|bc<|aX<|aU ?_;exact bz (K2 wi h) (aQ J)
   ·skip
    refine an<|zo J (bw kI ew J J)<|zo J (bj br J J)<|zo J (cS (ht J) hI)<|al<|cz h J (fun h=>?_) (fun h=>?_)
    ·refine ah<|ax J<|ax J<|zo J (bw kI ew J J)<|zo J (bj br J J)<|bM h fun e2 q_e2 h=>zo J (bT kD cD (.head _) (ht J) (ht J) q_e2)<|zo J (dj (r:=aR) (i:=e1.B) (foff:=0) cD J J bO J (.head _) q_e2 (ht J))<|zo J (bK (ht J))<|zo J (fi 15 Gu J J J)<|cg<|aE cD J Mk J (ht J) (ht J)<|aC<|aU ?_;exact bz (K1 (dq.mk x.checker x.n x.a_ e2) h) (aQ J)
    ·refine aO ?_;exact bz (K1 x h) (aQ J)
  ·skip
   refine an<|zo J (bw iS dE J J)<|zo J (bj br J J)<|zo J (cS (ht J) hI)<|al<|cz h J (fun h=>?_) (fun h=>?_)
   ·refine ah<|ax J<|ax J<|zo J (bw iS dE J J)<|zo J (bj br J J)<|bM h fun e3 q_e3 h=>zo J (bT kD cD (.tail _ (.head _)) (ht J) (ht J) q_e3)<|zo J (dj (r:=aR) (i:=e1.A) (foff:=0) cD J J bO J (.tail _ (.head _)) q_e3 (ht J))<|zo J (bK (ht J))<|zo J (fi 13 vH J J J)<|aE cD J Ml J (ht J) (ht J)<|aC<|aU ?_;exact bz (K (dq.mk (⟨p,e1,vj,vj⟩:dq).checker (⟨p,e1,vj,vj⟩:dq).n e3 (⟨p,e1,vj,vj⟩:dq).b) h) (aQ J)
   ·refine aO<|aU ?_;exact bz (K (⟨p,e1,vj,vj⟩:dq) h) (aQ J)
theorem Dn(p:da)(from1:Int){R:Int×Int×Bool}(h:kP p from1=some R):bh be 15 [tD ce p,bY from1] (tT [bY R.1,bY R.2.1,gD R.2.2]):=by
 refine Iy Tryz.func15 J J J fun w0 S0=>an<|zo J (lK J)<|aZ (r:=cC) (x:=(0:Int)) br (fun _=>J) J fun b=>aZ (r:=cC) (x:=(0:Int)) br (fun _=>J) J fun b1=>aZ (r:=rB) (x:=false) NB (fun _=>J) J fun b2=>al<|ae<|an<|zo J (bj mg J J)<|ax J<|bM h fun it q_it h=>Fv Wd (Lf _ _ q_it) ⟨(ht J),(ht J),bm⟩ J fun v fp=>al<|ap<|bM h fun r q_r h=>UP ?_;refine Nu (fun(i:Bool×Int×Int)=>[bx rB 4 b2 i.1,bx cC 3 b1 i.2.1,bx cC 3 b i.2.2]) (fun(i:Bool×Int×Int)=>(i.1,i.2.1,i.2.2)) (fun _=> .ret) J (ht J) (false,(0:Int),(0:Int)) J q_r (fun _=>J) J (fun i x r1 h lp rec1 _ _ _=>?_) (fun i j hi bd=>⟨fun hj=>?_,fun _ hj=>?_⟩)
 ·obtain⟨x1,x2,x3⟩:=i
  replace h:wG x x1 x2 x3=some r1:=h
  refine(show CG _ _ _ [tH lp rec1 .ready none,bx rB 4 b2 x1,bx cC 3 b1 x2,bx cC 3 b x3] _ from ?_);refine Kk (G' :=[(0,tD ce p),(1,bY from1),(2,bF ce p),(4,tV (aN b 0)),(5,tV (aN b1 0)),(6,tV (aN b2 0)),(9,tD ce p),(10,bY from1),(12,bY x.1),(13,bY x.2)]) ?_ ⟨J,J,J,J,J,J,J,J,J,J,bm⟩;refine an<|aY J<|al<|ah<|aY J<|aC<|NA<|ap<|an<|ax J<|ax J<|em<|aE br J ay J (ht J) (ht J)<|em<|aE br J ay J (ht J) (ht J)<|em<|aE NB J ay J (ht J) hB<|al<|aj<|am ?_;refine bc<|bc<|bc<|bS ?_;cases so h;exact GZ 0 J (true,x.2,x.1) J J
 ·skip
  obtain⟨x4,x5,x6⟩:=i
  obtain rfl:x4=r.1.2.1:=congrArg (fun q:Bool×Int×Int=>q.1) hi
  obtain rfl:x5=r.1.2.2.1:=congrArg (fun q:Bool×Int×Int=>q.2.1) hi
  obtain rfl:x6=r.1.2.2.2:=congrArg (fun q:Bool×Int×Int=>q.2.2) hi
  have h:=ct h (by rw [hj];rfl);refine(show AT _ _ _ [G2 bd,bx rB 4 b2 r.1.2.1,bx cC 3 b1 r.1.2.2.1,bx cC 3 b r.1.2.2.2] _ from ?_);refine bz (G' :=[(0,tD ce p),(1,bY from1),(2,bF ce p),(4,tV (aN b 0)),(5,tV (aN b1 0)),(6,tV (aN b2 0)),(9,tD ce p),(10,bY from1)]) ?_ ⟨J,J,J,J,J,J,J,J,bm⟩;refine af<|ai<|an<|em<|aE br rfl ay rfl (ht rfl) hI<|em<|aE br rfl ay rfl (ht rfl) hI<|em<|aE NB rfl ay rfl (ht rfl) hB<|al<|aj<|bc<|eP 4 rfl<|aU<|eP 5 rfl<|eP 6 rfl<|Cc<|xc ?_;cases so h;exact G0 (ts:=[bY 0,bY 0,gD false]) (rvs:=[.cell 4 3,.cell 5 3,.cell 6 4]) J J ⟨rK br J J J,rK br J J J,rK NB J J J,bm⟩
 ·skip
  obtain⟨x7,x8,x9⟩:=i
  obtain rfl:x7=r.1.2.1:=congrArg (fun q:Bool×Int×Int=>q.1) hi
  obtain rfl:x8=r.1.2.2.1:=congrArg (fun q:Bool×Int×Int=>q.2.1) hi
  obtain rfl:x9=r.1.2.2.2:=congrArg (fun q:Bool×Int×Int=>q.2.2) hi
  have h:=cf h (by rw [hj];rfl);refine(show CG _ _ _ [G2 bd,bx rB 4 b2 r.1.2.1,bx cC 3 b1 r.1.2.2.1,bx cC 3 b r.1.2.2.2] _ from ?_);refine Kk (G' :=[(0,tD ce p),(1,bY from1),(2,bF ce p),(4,tV (aN b 0)),(5,tV (aN b1 0)),(6,tV (aN b2 0)),(9,tD ce p),(10,bY from1)]) ?_ ⟨J,J,J,J,J,J,J,J,bm⟩;refine aj ?_;refine am (aa ?_);refine bS<|eP 4 J<|bc<|eP 5 J<|aU<|eP 6 J<|Cc<|xc ?_;cases so h;exact G0 (ts:=[bY r.1.2.2.2,bY r.1.2.2.1,gD r.1.2.1]) (rvs:=[.cell 4 3,.cell 5 3,.cell 6 4]) J J ⟨rK br J J J,rK br J J J,rK NB J J J,bm⟩

theorem RE(place:Int)(n:aw){R:Bool}(h:ph place n=some R):bh be 151 [tD aA n,bF cC place] (gD R):=by
 refine bh.of Tryz.func151 J J J fun w0 S0=>an<|zo J (lK J)<|zo J (ei)<|al<|an<|zo J (bw iS dE J J)<|zo J (bj br J J)<|zo J (bj br J J)<|zo J (bq (ht J) (ht J))<|ax J<|bX J J (fun hg=>bw kI ew J J)<|bX J J (fun hg=>aF br J J (aG J hg))<|bX J J (fun hg=>bj br J J)<|bX J J (fun hg=>bq (aG J hg) (aG J hg))<|zo J (lH J J)<|aY J<|al<|aj ?_;cases so h;exact aB J J

theorem OU(p:(Option ci))(frag:Int){R:aw}(h:qC p frag=some R):bh be 76 [tD qU p,bY frag] (tD aA R):=by
 refine bh.of Tryz.func76 J J J fun w0 S0=>an<|aZ (r:=aA) (x:=yF) db (fun _=>ev _) J fun b=>al<|an<|ax J<|bM h fun p1 q_p1 h=>zo J (f9 (ht J) q_p1)<|zo J (bw rx jG J J)<|zo J (bj mg J J)<|ax J<|bM h fun r q_r h=>zo J (aH Pq (Dn _ _ q_r) ⟨(ht J),(ht J),bm⟩)<|ax J<|zo J (iA J J)<|zo J (iA J J)<|zo J (iA J J)<|aZ (r:=cC) (x:=(0:Int)) br (fun _=>J) J fun b1=>aY J<|aE br J ay J (ht J) (ht J)<|aW 6 J ?_;refine aY J<|al<|ae<|an<|ax J<|zo J (dD (ht J))<|al<|cz h J (fun h=>?_) (fun h=>?_)
 ·refine an<|zo J (cI (y:=yF) db JP ev (J))<|aE db J ay J (ht J) (ht J)<|al<|aj<|aa<|eP 4 J ?_;cases so h;exact gz J db J J J
 ·refine dF<|an<|ax J<|bM h fun p2 q_p2 h=>zo J (f9 (ht J) q_p2)<|zo J (bw rx jG J J)<|zo J (bw fY dp J J)<|zo J (bj nS J J)<|ax J<|bM h fun e q_e h=>zo J (gM kE fN J J J q_e)<|zo J (bw mO gJ J J)<|zo J (bj n8 J J)<|zo J ((show cO _ _ _ _ ((iB be LW pQ (fun(x:aw)=>(ph r.2.1) x)))from kQ (cts:=[bF cC r.2.1]) (caps:=[.tmp 6]) Xg ⟨(ht J),bm⟩ (fun x y h=>RE _ _ h)))<|bM h fun r1 q_r1 h=>zo J (aH S8 (Lq _ _ q_r1) ⟨(ht J),(ht J),bm⟩)<|aY J<|al<|ae<|an ?_;refine ax J<|zo J (eg (ht J) hI)<|al<|cz h J (fun h=>?_) (fun h=>?_)
  ·refine an<|zo J (cI (y:=yF) db JP ev (J))<|aE db J ay J (ht J) (ht J)<|al<|aj<|aa<|eP 4 J ?_;cases so h;exact gz J db J J J
  ·refine dF<|an<|ax J<|bM h fun p3 q_p3 h=>zo J (f9 (ht J) q_p3)<|zo J (bw rx jG J J)<|zo J (bw fY dp J J)<|zo J (bj nS J J)<|ax J<|bM h fun e1 q_e1 h=>zo J (gM kE fN J J J q_e1)<|zo J (bw mO gJ J J)<|zo J (bj n8 J J)<|ax J<|bM h fun e2 q_e2 h=>zo J (gM ib db J J J q_e2)<|zo J (bj db J J)<|aE db J ay J (ht J) (ht J)<|al<|aj<|eP 4 J ?_;cases so h;exact gz J db J J J

theorem Ua(s1:(List gm))(s2:(List gm))(eq:(gm→gm→Option Bool)){R:Bool}(h:gN s1 s2 eq=some R):bh be 77 [eV (dz) s1,eV (dz) s2,(iB be Tn pQ (fun(x:gm×gm)=>eq x.1 x.2))] (gD R):=by
 refine bh.of Tryz.func77 J J J fun w0 S0=>an<|zo J (ei)<|al<|ae<|an<|ax J<|zo J (fU nw J)<|ax J<|zo J (fU nw J)<|zo J (cA (ht J) (ht J))<|al<|cz h J (fun h=>?_) (fun h=>?_)
 ·refine an<|zo J (ei)<|al<|aj<|aa ?_;cases so h;exact aB J J
 ·refine dF<|ae<|an<|ax J<|zo J (fU nw J)<|zo J (bk hI)<|al<|ap<|aT (k:=15) J fun hN=>bE ?_;refine aJ (dB (Z:=fun ls i=>(s1.drop i=ls)∧ek s2 eq ls i=some R) (Of:=fun _ i=>[]) (Gf:=fun _ i=>[(1,eV (dz) s2),(2,(iB be Tn pQ (fun(x:gm×gm)=>eq x.1 x.2))),(15,eV (dz) s1),(16,gA s1),(17,bY (i:Int))]) (fun i h=>?_) (fun e tl ih i h=>?_) s1 0 ⟨J,h⟩) (aQ J)
  ·obtain⟨hx,h⟩:=h
   refine av<|an<|zo J (eu J J)<|al<|ae<|bu (ht J) (dh hx)<|bf ?_;refine ac (ac (aI ?_));refine ai<|an<|zo rfl (ei)<|al<|aj ?_;cases so h;exact aB J J
  ·obtain⟨hx,h⟩:=h
   refine av<|an<|zo J (eu J J)<|al<|ae<|bt (ht J) (dg hx)<|dF<|ae<|ap<|an<|ax J<|zo J (gM nw gS J J J (dl hx))<|zo J (bj gS J J)<|aZ (r:=dz) (x:=FK) gS (fun _=>vi _) J fun b=>aY J<|aE gS J ay J (ht J) (ht J)<|aW 8 J<|al<|ae ?_;refine ah<|ax J<|ax J<|bM h fun e1 q_e1 h=>zo J (gM nw gS J J J q_e1)<|zo J (bj gS J J)<|aZ (r:=dz) (x:=FK) gS (fun _=>vi _) J fun b1=>aE gS J ay J (ht J) (ht J)<|aW 9 J<|al<|an<|ax J<|zo J (bj gS J J)<|zo J (bj gS J J)<|bM h fun r q_r h=>zo J (jR (args:=Tn) (res:=D3) (f:=(fun(x:gm×gm)=>eq x.1 x.2)) (x:=((e,e1):gm×gm)) (ht J) q_r ⟨(ht J),(ht J),bm⟩)<|zo J (dD (ht J))<|al<|cz h J (fun h=>?_) (fun h=>?_)
   ·refine an<|zo J (ei)<|al<|aj ?_;refine am (aa (aa (am (aa ?_))));cases so h;exact aB J J
   ·refine aO<|af<|ai<|ah<|zo rfl (je (cx hx hN) rfl)<|ax rfl<|aC ?_;exact aM (aJ (ih (i+1) ⟨cw hx,h⟩) (aQ J))

theorem T9(p:gm)(y:gm){R:Bool}(h:rR p y=some R):bh be 78 [tD dz p,tD dz y] (gD R):=by
 refine bh.of Tryz.func78 J J J fun w0 S0=>an<|zo J (lK J)<|zo J (lK J)<|zo J (ei)<|al<|an<|zo J (bw kJ iR J J)<|zo J (bj br J J)<|zo J (bw kJ iR J J)<|zo J (bj br J J)<|zo J (bq (ht J) (ht J))<|aY J<|al<|aj ?_;cases so h;exact aB J J

theorem QX(s:(List bD))(f:(bD→Option Bool)){R:Int}(h:kw s f=some R):bh be 250 [eV (aV) s,(iB be PT pQ (fun(x:bD)=>f x))] (bY R):=by
 refine bh.of Tryz.func250 J J J fun w0 S0=>an<|zo J (dv)<|al<|ae<|an<|ax J<|zo J (fU pi J)<|zo J (bk hI)<|al<|ap<|aT (k:=6) J fun hN=>bE ?_;refine aJ (dB (Z:=fun ls i=>(s.drop i=ls)∧gc f ls i=some R) (Of:=fun _ i=>[]) (Gf:=fun _ i=>[(0,eV (aV) s),(1,(iB be PT pQ (fun(x:bD)=>f x))),(7,gA s),(8,bY (i:Int))]) (fun i h=>?_) (fun e tl ih i h=>?_) s 0 ⟨J,h⟩) (aQ J)
 ·obtain⟨hx,h⟩:=h
  refine av<|an<|zo J (eu J J)<|al<|ae<|bu (ht J) (dh hx)<|bf ?_;refine ac (ac (aI ?_));refine ai<|an<|zo rfl (dv)<|al<|aj ?_;cases so h;exact aB J J
 ·obtain⟨hx,h⟩:=h
  refine av<|an<|zo J (eu J J)<|al<|ae<|bt (ht J) (dg hx)<|dF<|ae<|ap<|an<|ax J<|aY J<|al<|an<|ax J<|ax J<|ax J<|zo J (gM pi dk J J J (dl hx)) ?_;refine zo J (bj dk J J)<|bM h fun r q_r h=>zo J (jR (args:=PT) (res:=D3) (f:=(fun(x:bD)=>f x)) (x:=((e):bD)) (ht J) q_r ⟨(ht J),bm⟩)<|al<|cz h J (fun h=>?_) (fun h=>?_)
  ·refine an<|ax J<|aY J<|al<|aj ?_;refine am (aa (aa (am (aa ?_))));cases so h;exact aB J J
  ·refine aO<|af<|ai<|ah<|zo rfl (je (cx hx hN) rfl)<|ax rfl<|aC ?_;exact aM (aJ (ih (i+1) ⟨cw hx,h⟩) (aQ J))

theorem Re(s:(List bD))(f:(bD→Option Bool)){R:Bool}(h:jy s f=some R):bh be 211 [eV (aV) s,(iB be PT pQ (fun(x:bD)=>f x))] (gD R):=by
 refine bh.of Tryz.func211 J J J fun w0 S0=>an<|zo J (ei)<|al<|an<|ax J<|ax J<|bM h fun r q_r h=>zo J (aH Wt (QX _ _ q_r) ⟨(ht J),(ht J),bm⟩)<|zo J (cS (ht J) hI)<|aY J<|al<|aj ?_;cases so h;exact aB J J

theorem Rd(n:bD){R:Bool}(h:Bj n=some R):bh be 212 [tD aV n] (gD R):=by
 refine bh.of Tryz.func212 J J J fun w0 S0=>an<|zo J (lK J)<|zo J (ei)<|al<|an<|zo J (bw iT ez J J)<|zo J (bj br J J)<|bM h fun r q_r h=>zo J (aH SY (Lj _ q_r) ⟨(ht J),bm⟩)<|aY J<|al<|aj ?_;cases so h;exact aB J J

theorem RD(e:bp){R:Bool}(h:Fe e=some R):bh be 152 [tD bn e] (gD R):=by
 refine bh.of Tryz.func152 J J J fun w0 S0=>an<|zo J (lK J)<|zo J (ei)<|al<|an<|zo J (bj fG J J)<|bM h fun r q_r h=>zo J (aH Sl (Gx _ q_r) ⟨(ht J),bm⟩)<|zo J (eQ J)<|ax J<|bM h fun t q_t h=>bo J J (fun hg=>bw d3 cU J J)<|bo J J (fun hg=>aF jZ J J (aG J hg)) ?_
 obtain⟨r1,h1t,h0t⟩:=og q_t
 have q_r1g:=fun hb=>(h1t hb).1
 refine bo J J (fun hg=>aH WJ (Re _ _ (q_r1g hg)) ⟨(aG J hg),(Gm WI fun x y h=>Rd _ h),bm⟩)<|bo J J (fun hg=>dD (aG J hg))<|zo J (cu (ht J) (fun hb=>(aG J hb)) (fun hb=>(h1t hb).2) h0t)<|aY J<|al<|aj ?_;cases so h;exact aB J J

theorem OZ(s:(List bD)){R:(List bD)}(h:iD s=some R):gk be 214 [eV (aV) s] false aV 149 R:=by
 refine gk.of Tryz.func214 J J J fun w0 S0=>an<|cm false aV 149<|zo J (aP tE)<|al<|ae<|an<|ax J<|IE pi (ht J) J fun isnil hisnil=>al<|rA (ht J) (fun hc=>?_) (fun hc=>?_)
 ·have hx:=hisnil hc
  have h:some I0=some R:=by simpa [iD,ko,hx] using h
  refine an<|cm false aV 149<|zo J (aP tE)<|al<|aj<|aa ?_;cases so h;exact iu J J
 ·refine dF<|an<|gy (r:=aV) (ys:=I0) (xs:=[]) pi dk J J J J J trivial J fun l c=>ax J<|bM h fun x q_x h=>cn dk J J J J pi J J (ht J) (ht J) q_x fun l1 c1=>aY J<|al<|aj ?_;cases so h;exact iu J J
theorem O6(e:bp){R:(List bp)}(h:Fg e=some R):gk be 153 [tD bn e] false bn 45 R:=by
 refine gk.of Tryz.func153 J J J fun w0 S0=>an<|zo J (lK J)<|cm false bn 45<|zo J (aP tE)<|al<|an<|zo J (bj fG J J)<|bM h fun r q_r h=>zo J (aH Tc (Lu _ q_r) ⟨(ht J),bm⟩)<|ax J<|zo J (iA J J)<|zo J (iA J J)<|aY J<|aY J<|al<|ae<|an<|ax J ?_;refine zo J (dD (ht J))<|al<|cz h J (fun h=>?_) (fun h=>?_)
 ·refine an<|cm false bn 45<|zo J (aP tE)<|al<|aj<|aa ?_;cases so h;exact iu J J
 ·refine dF<|an<|cm false bn 45<|zo J (aP tE)<|al<|an<|zo J (bw d3 cU J J)<|zo J (bj jZ J J)<|zo J (fU pi J)<|zo J (dn (ht J) hI)<|gy (r:=cC) (ys:=[(IntKind.i64.wrap ((e.Nodes.length:Int)-(1:Int)))]) (xs:=[.tmp 23]) cZ br J J J J J ⟨(ht J),bm⟩ J fun l c=>aY J<|al<|ae<|ap<|bE<|ka<|pB<|dW ?_;refine aJ (LQ (Z:=fun n out l1 c1 open1 l2 c2=>nl e r n out open1=some R) (Of:=fun out l1 c1 open1 l2 c2=>[cY bn 45 l1 c1 out,cY cC 3 l2 c2 open1]) (Gf:=fun out l1 c1 open1 l2 c2=>[(1,bF bn e),(3,ji r.1),(5,mU l1 c1 out),(6,mU l2 c2 open1)]) (fun out l1 c1 open1 l2 c2 h=>nn h) (fun n ih out l1 c1 open1 l2 c2 h=>?_) gK IZ none 0 ([(IntKind.i64.wrap ((e.Nodes.length:Int)-(1:Int)))]) l c h) (aQ J);refine av<|ae<|an<|ax J<|zo J (fc cZ (.tail _ (.head _)) (ht J))<|zo J (dZ (ht J) hI)<|al<|cz h J (fun h=>?_) (fun h=>?_)
  ·refine dF ?_;refine Fz (Z:=fun out1 l3 c3 open2 l4 c4=>vJ (nl e r n) out1 open2=some R) (Of:=fun out1 l3 c3 open2 l4 c4=>[cY bn 45 l3 c3 out1,cY cC 3 l4 c4 open2]) (Gf:=fun out1 l3 c3 open2 l4 c4=>[(1,bF bn e),(3,ji r.1),(5,mU l3 c3 out1),(6,mU l4 c4 open2)]) (fun out1 l3 c3 open2 l4 c4 h=>?_) (fun K=>?_)
   ·skip
    exact aM (aJ (ih out1 l3 c3 open2 l4 c4 h) (aQ J))
   ·skip
    refine an<|ax J<|ax J<|zo J (fc cZ (.tail _ (.head _)) (ht J))<|zo J (dn (ht J) hI)<|bM h fun e1 q_e1 h=>zo J (bT cZ br (.tail _ (.head _)) (ht J) (ht J) q_e1)<|zo J (dj (r:=cC) (i:=(IntKind.i64.wrap ((open1.length:Int)-(1:Int)))) (foff:=0) br J J bO J (.tail _ (.head _)) q_e1 (ht J))<|aY J<|al<|an<|ax J<|ax J<|zo J (fc cZ (.tail _ (.head _)) (ht J))<|zo J (dn (ht J) hI)<|bM h fun y q_y h=>zo J (oE cZ br J (.tail _ (.head _)) (ht J) (ht J) q_y)<|cg<|DF q_y<|aY J<|aC ?_;refine ai<|an<|zo rfl (bw d3 cU rfl rfl)<|zo rfl (bj jZ rfl rfl)<|ax rfl<|bM h fun e2 q_e2 h=>zo J (gM pi dk J J J q_e2)<|zo J (bj dk J J)<|aZ (r:=aV) (x:=D4) dk (fun _=>kX _) J fun b=>aE dk J ay J (ht J) (ht J)<|aW 8 J<|al<|ae<|an<|zo J (bw iT ez J J)<|zo J (bj br J J)<|zo J (eQ J)<|al<|cz h J (fun h=>?_) (fun h=>?_)
    ·refine an<|ax J<|zo J (bw ni ly J J)<|zo J (bj br J J)<|zo J (bw nZ mq J J)<|zo J (bj br J J)<|zo J (ba (r:=cC) (ys:=[e2.R,e2.L]) (xs:=[.tmp 49,.tmp 51]) cZ br J J J J J ⟨(ht J),(ht J),bm⟩)<|bM h fun open3 q_open3 h=>cn br J J J J cZ J J (ht J) (ht J) q_open3 fun l5 c5=>aY J<|al<|bf ?_;refine ac (aI ?_);refine aU ?_;exact bz (K out l1 c1 open3 l5 c5 h) (aQ J)
    ·refine dF<|an<|ax J<|ax J<|bM h fun e3 q_e3 h=>zo J (gM cZ br J J J q_e3)<|zo J (bj br J J)<|aY J<|al<|an<|zo J (bw d3 cU J J)<|zo J (bj jZ J J)<|ax J<|ax J<|zo J (fm (ht J) hI)<|bM h fun y1 q_y1 h=>zo J (MH pi dk J (ht J) (ht J) (ht J) q_y1)<|bM h fun r1 q_r1 h=>kC WH (OZ _ q_r1) ⟨(ht J),bm⟩ J fun l6 c6=>zo J (cI (y:=gI (⟨r1⟩:bp) (aD l6 c6 r1.length)) fG VG uO (⟨_,_,_,_,_,J,A4,J,(Bg (ht J)),J⟩)) ?_;refine cm false aV 149<|aZ (r:=gG) (x:=gI se (aD none 0 (I0.length))) fG uO J fun b1=>dP fG J (iX J) J (ht J) (ht J)<|cg<|uo<|al<|ae<|an<|zo J (fi 0 d3 J J J)<|zo J (fa jZ mb (.head _) J (ht J))<|zo J (fc pi (.tail _ (.head _)) (ht J))<|zo J (bk hI)<|al<|ap<|jI (.tail _ (.head _)) fun hN=>bE<|dW<|dW<|ka<|fE ?_;refine aJ (jY (Z:=fun ls i part=>(r1.drop i=ls)∧qJ (nl e r n) out y e3 ls i part=some R) (Of:=fun _ i part=>[cY bn 45 l1 c1 out,cY cC 3 l2 c2 y,bx gG 45 b1 (gI part (aD l6 c6 part.Nodes.length)),cY aV 149 l6 c6 part.Nodes]) (Gf:=fun _ i part=>[(1,bF bn e),(3,ji r.1),(5,mU l1 c1 out),(6,mU l2 c2 y),(9,bY e3),(10,tV (aN b1 0)),(68,gA r1),(69,bY (i:Int))]) (fun i part h=>?_) (fun e4 tl ih1 i part h=>?_) r1 0 ({(⟨r1⟩:bp)with Nodes:=r1}:bp) ⟨J,h⟩) (aQ J)
     ·obtain⟨hx,h⟩:=h
      refine av<|an<|zo J (eu J J)<|al<|ae<|bu (ht J) (dh hx)<|bf ?_;refine ac (ac (aI ?_));refine ai<|ah<|ax rfl<|em<|ja<|zo rfl (nd (q:=bn) (y:=part) fG J J J J (.tail _ (.tail _ (.tail _ (.head _)))) (fun _ _ _ ho h=>tt (jl ho (.head _)) h) (ht J))<|zo J (ba (r:=bn) (ys:=[part]) (xs:=[.tmp 104]) rD fG J J J J J ⟨(ht J),bm⟩)<|cg<|bM h fun out2 q_out2 h=>cn fG J J J J rD J J (ht J) (ht J) q_out2 fun l7 c7=>aY J<|aC<|af<|aU<|aX<|bc<|aX ?_;exact bz (K out2 l7 c7 y l2 c2 h) (aQ J)
     ·obtain⟨hx,h⟩:=h
      refine av<|an<|zo J (eu J J)<|al<|ae<|bt (ht J) (dg hx)<|dF<|ae<|ap<|an<|ax J<|aY J<|al<|an<|zo J (fi 0 d3 J J J)<|zo J (fa jZ mb (.tail _ (.tail _ (.head _))) J (ht J))<|ax J<|bM h fun e5 q_e5 h=>?_;refine zo J (bT pi dk (.tail _ (.tail _ (.tail _ (.head _)))) (ht J) (ht J) q_e5)<|aY J<|al ?_;refine c0 (Z:=fun part1=>vI e3 (qJ (nl e r n) out y e3 tl) i part1=some R) (Of:=fun part1=>[cY bn 45 l1 c1 out,cY cC 3 l2 c2 y,bx gG 45 b1 (gI part1 (aD l6 c6 part1.Nodes.length)),cY aV 149 l6 c6 part1.Nodes]) (Gf:=fun part1=>[(1,bF bn e),(3,ji r.1),(5,mU l1 c1 out),(6,mU l2 c2 y),(9,bY e3),(10,tV (aN b1 0)),(12,tV (kz l6 ((i:Int).toNat*8+0))),(68,gA r1),(69,bY (i:Int))]) (fun part1 h=>?_) (fun K1=>?_)
      ·skip
       refine an<|ax J<|bM h fun e6 q_e6 h=>zo J (sD (.tail _ (.tail _ (.tail _ (.head _)))) q_e6 (ht J))<|zo J (hU (o:=(i:Int).toNat*8+0) (n:=(i:Int).toNat*8+2) ni J (.tail _ (.tail _ (.tail _ (.head _)))) q_e6 (ht J) J)<|zo J (dj (r:=aV) (i:=(i:Int)) (foff:=2) br J J ly J (.tail _ (.tail _ (.tail _ (.head _)))) q_e6 (ht J))<|zo J (cS (ht J) hI)<|al<|cz h J (fun h=>?_) (fun h=>?_)
       ·refine ah<|ax J<|zo J (sD (.tail _ (.tail _ (.tail _ (.head _)))) q_e6 (ht J))<|zo J (hU (o:=(i:Int).toNat*8+0) (n:=(i:Int).toNat*8+2) ni J (.tail _ (.tail _ (.tail _ (.head _)))) q_e6 (ht J) J)<|zo J (dj (r:=aV) (i:=(i:Int)) (foff:=2) br J J ly J (.tail _ (.tail _ (.tail _ (.head _)))) q_e6 (ht J))<|ax J<|zo J (dn (ht J) (ht J))<|zo J (sD (.tail _ (.tail _ (.tail _ (.head _)))) q_e6 (ht J))<|zo J (hU (o:=(i:Int).toNat*8+0) (n:=(i:Int).toNat*8+2) ni J (.tail _ (.tail _ (.tail _ (.head _)))) q_e6 (ht J) J)<|em<|bM h fun st q_st h=>lP br J vt J q_e6 (so q_st) (ht J) (ht J)<|pq (O' :=[cY aV 149 l6 c6 st,cY bn 45 l1 c1 out,cY cC 3 l2 c2 y,bx gG 45 b1 (gI part1 (aD l6 c6 st.length))]) (by rw [iq (so q_st)])<|aC<|af<|ai<|ah<|zo rfl (je (cx hx hN) rfl)<|ax rfl<|aC<|bS<|bS<|bS ?_;exact aM (aJ (ih1 (i+1) ({part1 with Nodes:=st}:bp) ⟨cw hx,h⟩) (aQ J))
       ·refine aO<|af<|ai<|ah<|zo rfl (je (cx hx hN) rfl)<|ax rfl<|aC ?_;exact aM (aJ (ih1 (i+1) part1 ⟨cw hx,h⟩) (aQ J))
      ·skip
       refine an<|ax J<|zo J (sD (.tail _ (.tail _ (.tail _ (.head _)))) q_e5 (ht J))<|zo J (hU (o:=(i:Int).toNat*8+0) (n:=(i:Int).toNat*8+1) nZ J (.tail _ (.tail _ (.tail _ (.head _)))) q_e5 (ht J) J)<|zo J (dj (r:=aV) (i:=(i:Int)) (foff:=1) br J J mq J (.tail _ (.tail _ (.tail _ (.head _)))) q_e5 (ht J))<|zo J (cS (ht J) hI)<|al<|cz h J (fun h=>?_) (fun h=>?_)
       ·refine ah<|ax J<|zo J (sD (.tail _ (.tail _ (.tail _ (.head _)))) q_e5 (ht J))<|zo J (hU (o:=(i:Int).toNat*8+0) (n:=(i:Int).toNat*8+1) nZ J (.tail _ (.tail _ (.tail _ (.head _)))) q_e5 (ht J) J)<|zo J (dj (r:=aV) (i:=(i:Int)) (foff:=1) br J J mq J (.tail _ (.tail _ (.tail _ (.head _)))) q_e5 (ht J))<|ax J<|zo J (dn (ht J) (ht J))<|zo J (sD (.tail _ (.tail _ (.tail _ (.head _)))) q_e5 (ht J))<|zo J (hU (o:=(i:Int).toNat*8+0) (n:=(i:Int).toNat*8+1) nZ J (.tail _ (.tail _ (.tail _ (.head _)))) q_e5 (ht J) J)<|em<|bM h fun st1 q_st1 h=>lP br J vu J q_e5 (so q_st1) (ht J) (ht J)<|jw (iq (so q_st1)) 73 J<|pq (O' :=[cY aV 149 l6 c6 st1,cY bn 45 l1 c1 out,cY cC 3 l2 c2 y,bx gG 45 b1 (gI part (aD l6 c6 st1.length))]) (by rw [iq (so q_st1)])<|aC<|bS<|bS<|bS ?_;exact bz (K1 ({part with Nodes:=st1}:bp) h) (aQ J)
       ·refine aO ?_;exact bz (K1 part h) (aQ J)
  ·refine bf ?_;refine ac (ac (aI ?_));refine ai<|an<|ax rfl<|aY rfl<|al<|aj ?_;cases so h;exact iu J J
end Go.Proofs.YtmogpgcfognefaaGreatDoor

