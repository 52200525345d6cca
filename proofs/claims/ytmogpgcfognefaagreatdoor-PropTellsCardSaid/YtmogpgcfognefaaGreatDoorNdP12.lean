/- di of this claim: P12. -/
import Derived.Test.YtmogpgcfognefaaGreatDoorNdT
import Derived.Test.YtmogpgcfognefaaGreatDoorNdP11
set_option linter.all false
namespace Go.Proofs.YtmogpgcfognefaaGreatDoor
open Go
set_option maxRecDepth 100000

theorem GA(c:Int){R:Bool}(h:rO c=some R):bh be 219 [tD (rI .u8) c] (gD R):=by
 refine bh.of Tryz.func219 J J J fun w0 S0=>an<|zo J (ei)<|al<|an<|ax J<|zo J (cS (ht J) hI)<|ax J<|bo J J (fun hg=>cq J)<|bo J J (fun hg=>fM (aG J hg) hI)<|zo J (hZ J J)<|aY J<|al<|aj ?_;cases so h;exact aB J J

theorem QW(l:(List iZ))(s:iZ){R:Bool}(h:Ao l s=some R):bh be 252 [eV (rS) l,tD rS s] (gD R):=by
 refine bh.of Tryz.func252 J J J fun w0 S0=>an<|zo J (ei)<|al<|ae<|an<|zo J (dv)<|al<|ap<|aT (k:=0) J fun hN=>bE ?_;refine aJ (dB (Z:=fun ls i=>(l.drop i=ls)∧qy s ls=some R) (Of:=fun _ i=>[]) (Gf:=fun _ i=>[(0,eV (rS) l),(1,tD rS s),(5,bY (i:Int))]) (fun i h=>?_) (fun e tl ih i h=>?_) l 0 ⟨J,h⟩) (aQ J)
 ·obtain⟨hx,h⟩:=h
  refine av<|ae<|an<|ax J<|ax J<|zo J (fU Ey J)<|zo J (eu J J)<|al<|bu (ht J) (dh hx)<|bf ?_;refine ac (ac (aI ?_));refine ai<|an<|zo rfl (ei)<|al<|aj ?_;cases so h;exact aB J J
 ·obtain⟨hx,h⟩:=h
  refine av<|ae<|an<|ax J<|ax J<|zo J (fU Ey J)<|zo J (eu J J)<|al<|bt (ht J) (dg hx)<|dF<|ae<|ap<|an<|ax J<|ax J<|zo J (gM Ey z6 J J J (dl hx))<|zo J (bj z6 J J)<|ax J<|zo J (qE (ht J) (ht J))<|aC ?_;refine ai<|cz h rfl (fun h=>?_) (fun h=>?_)
  ·refine an<|zo J (ei)<|al<|aj ?_;refine am (aa (aa (am (aa ?_))));cases so h;exact aB J J
  ·refine aO<|af<|ai<|ah<|ax rfl<|zo rfl (je (cx hx hN) rfl)<|aY rfl<|aC ?_;exact aM (aJ (ih (i+1) ⟨cw hx,h⟩) (aQ J))

theorem OX{R:(List iZ)}(h:wE=some R):gk be 253 [] false rS 9 R:=by
 refine gk.of Tryz.func253 J J J fun w0 S0=>an<|cm false rS 9<|zo J (aP tE)<|al<|an<|gy (r:=rS) (ys:=[[83,69,76,69,67,84],[68,73,83,84,73,78,67,84],[70,82,79,77],[76,69,70,84],[74,79,73,78],[79,78],[87,72,69,82,69],[71,82,79,85,80],[66,89],[72,65,86,73,78,71],[85,78,73,79,78],[65,76,76],[79,82,68,69,82],[76,73,77,73,84],[65,83,67],[68,69,83,67],[65,83],[65,78,68],[79,82],[78,79,84],[73,83],[78,85,76,76],[84,82,85,69],[70,65,76,83,69],[67,79,85,78,84],[83,85,77],[77,73,78],[77,65,88]]) (xs:=[.const (.string ⟨#[83,69,76,69,67,84]⟩),.const (.string ⟨#[68,73,83,84,73,78,67,84]⟩),.const (.string ⟨#[70,82,79,77]⟩),.const (.string ⟨#[76,69,70,84]⟩),.const (.string ⟨#[74,79,73,78]⟩),.const (.string ⟨#[79,78]⟩),.const (.string ⟨#[87,72,69,82,69]⟩),.const (.string ⟨#[71,82,79,85,80]⟩),.const (.string ⟨#[66,89]⟩),.const (.string ⟨#[72,65,86,73,78,71]⟩),.const (.string ⟨#[85,78,73,79,78]⟩),.const (.string ⟨#[65,76,76]⟩),.const (.string ⟨#[79,82,68,69,82]⟩),.const (.string ⟨#[76,73,77,73,84]⟩),.const (.string ⟨#[65,83,67]⟩),.const (.string ⟨#[68,69,83,67]⟩),.const (.string ⟨#[65,83]⟩),.const (.string ⟨#[65,78,68]⟩),.const (.string ⟨#[79,82]⟩),.const (.string ⟨#[78,79,84]⟩),.const (.string ⟨#[73,83]⟩),.const (.string ⟨#[78,85,76,76]⟩),.const (.string ⟨#[84,82,85,69]⟩),.const (.string ⟨#[70,65,76,83,69]⟩),.const (.string ⟨#[67,79,85,78,84]⟩),.const (.string ⟨#[83,85,77]⟩),.const (.string ⟨#[77,73,78]⟩),.const (.string ⟨#[77,65,88]⟩)]) Ey z6 J J J J J ⟨hS,hS,hS,hS,hS,hS,hS,hS,hS,hS,hS,hS,hS,hS,hS,hS,hS,hS,hS,hS,hS,hS,hS,hS,hS,hS,hS,hS,bm⟩ J fun l c=>aY J<|al<|aj ?_;cases so h;exact iu J J
theorem Q9(s:iZ){R:Bool}(h:sy s=some R):bh be 220 [tD rS s] (gD R):=by
 refine bh.of Tryz.func220 J J J fun w0 S0=>an<|zo J (ei)<|al<|an<|bM h fun r q_r h=>kC Wq (OX q_r) trivial J fun l c=>ax J<|ja<|jq 3 J<|bM h fun r1 q_r1 h=>zo J (aH Wr (QW _ _ q_r1) ⟨(su (ht J)),(ht J),bm⟩)<|aY J<|al<|aj<|aX ?_;cases so h;exact aB J J

theorem Q8(s:iZ){R:iZ}(h:tZ s=some R):bh be 221 [tD rS s] (tD rS R):=by
 refine bh.of Tryz.func221 J J J fun w0 S0=>an<|zo J (aP hS)<|al<|an<|cm false (rI .u8) 5<|zo J (aP tE)<|al<|ae<|an<|zo J (dv)<|al<|ap<|bE ?_;refine aJ (GU (Z:=fun n out l c i=>ln s n out i=some R) (Of:=fun out l c i=>[cY (rI .u8) 5 l c out]) (Gf:=fun out l c i=>[(0,tD rS s),(3,mU l c out),(4,bY i)]) (fun out l c i h=>nn h) (fun n ih out l c i h=>?_) gK ny none 0 (0:Int) h) (aQ J);refine av<|ae<|an<|ax J<|ax J<|zo J (ua kq (ht J))<|zo J (eu J J)<|al<|cz h J (fun h=>?_) (fun h=>?_)
 ·refine dF<|ae<|ap<|an<|ax J<|ax J<|bM h fun b q_b h=>zo J (sN kq (ht J) (ht J) q_b)<|aY J<|al ?_;refine c0 (Z:=fun c1=>oA (ln s n) out i c1=some R) (Of:=fun c1=>[cY (rI .u8) 5 l c out]) (Gf:=fun c1=>[(0,tD rS s),(3,mU l c out),(4,bY i),(5,tD (rI .u8) c1)]) (fun c1 h=>?_) (fun K=>?_)
  ·skip
   refine ah<|ax J<|ax J<|zo J (ba (r:=(rI .u8)) (ys:=[c1]) (xs:=[.tmp 21]) Tryz.underlying199 XP J J J J J ⟨(ht J),bm⟩)<|bM h fun out1 q_out1 h=>cn XP J J J J Tryz.underlying199 J J (ht J) (ht J) q_out1 fun l1 c2=>aY J<|aC<|af<|ai<|ah<|ax rfl<|zo rfl (fm (ht rfl) hI)<|aY rfl<|aC ?_;exact aM (aJ (ih out1 l1 c2 (IntKind.i64.wrap (i+(1:Int))) h) (aQ J))
  ·skip
   refine an<|ax J<|bM h fun r q_r h=>zo J (aH Po (GA _ q_r) ⟨(ht J),bm⟩)<|al<|cz h J (fun h=>?_) (fun h=>?_)
   ·refine ah<|ax J<|zo J (dn (ht J) hI)<|zo J (fm (ht J) hI)<|aY J<|aC ?_;exact bz (K (IntKind.u8.wrap ((IntKind.u8.wrap (b-(97:Int)))+(65:Int))) h) (aQ J)
   ·refine aO ?_;exact bz (K b h) (aQ J)
 ·refine bf ?_;refine ac (ac (aI ?_));refine ai<|an<|ax rfl<|ja<|jq 3 rfl<|jq 24 rfl<|zo rfl (MJ Tryz.underlying199 NK kq XP rfl (su (ht rfl)))<|aY rfl<|al<|aj<|aX ?_;cases so h;exact aB J J

theorem Q7(c:Int){R:Bool}(h:wD c=some R):bh be 222 [tD (rI .u8) c] (gD R):=by
 refine bh.of Tryz.func222 J J J fun w0 S0=>an<|zo J (ei)<|al<|an<|ax J<|zo J (cS (ht J) hI)<|ax J<|bo J J (fun hg=>cq J)<|bo J J (fun hg=>fM (aG J hg) hI)<|zo J (hZ J J)<|aY J<|al<|aj ?_;cases so h;exact aB J J

theorem Ln(s:iZ){R:Bool}(h:qz s=some R):bh be 164 [tD rS s] (gD R):=by
 refine bh.of Tryz.func164 J J J fun w0 S0=>an<|zo J (ei)<|al<|ae<|an<|ax J<|zo J (ua kq (ht J))<|zo J (eg (ht J) hI)<|ax J<|bX J J (fun hg=>cq J)<|bX J J (fun hg=>ua kq (aG J hg))<|bX J J (fun hg=>dZ (aG J hg) hI)<|zo J (lH J J)<|ax J<|bM h fun t q_t h=>bX J J (fun hg=>cq J) ?_
 obtain⟨b,h1t,h0t⟩:=og q_t
 have q_bg:=fun hb=>(h1t hb).1
 refine bX J J (fun hg=>sN kq (aG J hg) hI (q_bg hg)) ?_
 obtain⟨r,h1t⟩:=G1 (fun hb=>(h1t hb).2)
 have q_rg:=fun hb=>(h1t hb).1
 refine bX J J (fun hg=>aH Po (GA _ (q_rg hg)) ⟨(aG J hg),bm⟩)<|bX J J (fun hg=>dD (aG J hg))<|zo J (dY (ht J) (fun hb=>(aG J (mW hb))) (fun hb=>(h1t hb).2) h0t)<|ax J<|bM h fun t1 q_t1 h=>bX J J (fun hg=>cq J) ?_
 obtain⟨r1,h1t1,h0t1⟩:=og q_t1
 have q_r1g:=fun hb=>(h1t1 hb).1
 refine bX J J (fun hg=>aH WB (Q8 _ (q_r1g hg)) ⟨(aG J hg),bm⟩) ?_
 obtain⟨r2,h1t1⟩:=G1 (fun hb=>(h1t1 hb).2)
 have q_r2g:=fun hb=>(h1t1 hb).1
 refine bX J J (fun hg=>aH WC (Q9 _ (q_r2g hg)) ⟨(aG J hg),bm⟩)<|zo J (dY (ht J) (fun hb=>(aG J (mW hb))) (fun hb=>(h1t1 hb).2) h0t1)<|al<|cz h J (fun h=>?_) (fun h=>?_)
 ·refine an<|zo J (ei)<|al<|aj<|aa ?_;cases so h;exact aB J J
 ·refine dF<|ae<|an<|zo J (dv)<|al<|ap<|bE ?_;refine aJ (vS (Z:=fun n i=>nB s n i=some R) (Of:=fun i=>[]) (Gf:=fun i=>[(0,tD rS s),(3,bY i)]) (fun i h=>nn h) (fun n ih i h=>?_) gK (0:Int) h) (aQ J);refine av<|ae<|an<|ax J<|ax J<|zo J (ua kq (ht J))<|zo J (eu J J)<|al<|cz h J (fun h=>?_) (fun h=>?_)
  ·refine dF<|ae<|ap<|an<|ax J<|ax J<|bM h fun b1 q_b1 h=>zo J (sN kq (ht J) (ht J) q_b1)<|bM h fun r3 q_r3 h=>zo J (aH Po (GA _ q_r3) ⟨(ht J),bm⟩)<|zo J (dD (ht J))<|ax J<|bM h fun t2 q_t2 h=>bo J J (fun hg=>cq J)<|bo J J (fun hg=>cq J) ?_
   obtain⟨b2,h1t2,h0t2⟩:=og q_t2
   have q_b2g:=fun hb=>(h1t2 hb).1
   refine bo J J (fun hg=>sN kq (aG J hg) (aG J hg) (q_b2g hg)) ?_
   obtain⟨r4,h1t2⟩:=G1 (fun hb=>(h1t2 hb).2)
   have q_r4g:=fun hb=>(h1t2 hb).1
   refine bo J J (fun hg=>aH WA (Q7 _ (q_r4g hg)) ⟨(aG J hg),bm⟩)<|bo J J (fun hg=>dD (aG J hg))<|zo J (cu (ht J) (fun hb=>(aG J hb)) (fun hb=>(h1t2 hb).2) h0t2)<|ax J<|bM h fun t3 q_t3 h=>bo J J (fun hg=>cq J)<|bo J J (fun hg=>cq J) ?_
   obtain⟨b3,h1t3,h0t3⟩:=og q_t3
   have q_b3g:=fun hb=>(h1t3 hb).1
   refine bo J J (fun hg=>sN kq (aG J hg) (aG J hg) (q_b3g hg))<|bo J J (fun hg=>cA (aG J hg) hI)<|zo J (cu (ht J) (fun hb=>(aG J hb)) (fun hb=>(h1t3 hb).2) h0t3)<|al<|cz h J (fun h=>?_) (fun h=>?_)
   ·refine an<|zo J (ei)<|al<|aj ?_;refine am (aa (aa (am (aa ?_))));cases so h;exact aB J J
   ·refine aO<|af<|ai<|ah<|ax rfl<|zo rfl (fm (ht rfl) hI)<|aY rfl<|aC ?_;exact aM (aJ (ih (IntKind.i64.wrap (i+(1:Int))) h) (aQ J))
  ·refine bf ?_;refine ac (ac (aI ?_));refine ai<|an<|zo rfl (ei)<|al<|aj ?_;cases so h;exact aB J J

theorem Rv(kind:Int){R:iZ}(h:vw kind=some R):bh be 165 [bY kind] (tD rS R):=by
 refine bh.of Tryz.func165 J J J fun w0 S0=>an<|zo J (aP hS)<|al<|ae<|an<|ax J<|al<|ap<|an<|zo J (eQ J)<|aY J<|al<|cz h J (fun h=>?_) (fun h=>?_)
 ·refine an<|zo J (aP hS)<|al<|aj ?_;refine am (aa ?_);cases so h;exact aB J J
 ·refine an<|zo J (eQ J)<|aY J<|al<|cz h J (fun h=>?_) (fun h=>?_)
  ·refine an<|zo J (aP hS)<|al<|aj ?_;refine am (aa ?_);cases so h;exact aB J J
  ·refine an<|zo J (eQ J)<|aY J<|al<|cz h J (fun h=>?_) (fun h=>?_)
   ·refine an<|zo J (aP hS)<|al<|aj ?_;refine am (aa ?_);cases so h;exact aB J J
   ·refine aO<|af<|ai<|an<|zo rfl (aP hS)<|al<|aj ?_;cases so h;exact aB J J

theorem TZ(t:bU){R:Bool}(h:oZ t=some R):bh be 97 [tD cT t] (gD R):=by
 refine bh.of Tryz.func97 J J J fun w0 S0=>an<|zo J (lK J)<|zo J (ei)<|al<|ae<|an<|zo J (bw Dj tm J J)<|zo J (bj z6 J J)<|bM h fun r q_r h=>zo J (aH S5 (Ln _ q_r) ⟨(ht J),bm⟩)<|zo J (dD (ht J))<|ax J<|bX J J (fun hg=>bw pJ iQ J J)<|bX J J (fun hg=>aF yc J J (aG J hg))<|bX J J (fun hg=>bg sb (aG J hg))<|bX J J (fun hg=>eg (aG J hg) hI)<|zo J (lH J J)<|ax J<|bX J J (fun hg=>bw pJ iQ J J)<|bX J J (fun hg=>aF yc J J (aG J hg)) ?_;refine bX J J (fun hg=>bg sb (aG J hg))<|bX J J (fun hg=>dZ (aG J hg) hI)<|zo J (lH J J)<|al<|cz h J (fun h=>?_) (fun h=>?_)
 ·refine an<|zo J (ei)<|al<|aj<|aa ?_;cases so h;exact aB J J
 ·refine dF<|ae<|an<|zo J (dv)<|al<|ap<|bE ?_;refine aJ (vS (Z:=fun n i=>iY t n i=some R) (Of:=fun i=>[]) (Gf:=fun i=>[(1,bF cT t),(3,bY i)]) (fun i h=>nn h) (fun n ih i h=>?_) gK (0:Int) h) (aQ J);refine av<|ae<|an<|ax J<|zo J (bw pJ iQ J J)<|zo J (bj yc J J)<|zo J (fU sb J)<|zo J (eu J J)<|al<|cz h J (fun h=>?_) (fun h=>?_)
  ·refine dF<|ae<|ap<|an<|zo J (bw pJ iQ J J)<|zo J (bj yc J J)<|ax J<|bM h fun e q_e h=>zo J (gM sb pg J J J q_e)<|zo J (bj pg J J)<|aZ (r:=cH) (x:=NN) pg (fun _=>qT _) J fun b=>aE pg J ay J (ht J) (ht J)<|aW 4 J<|al<|ae<|an<|zo J (bw Gt ug J J)<|zo J (bj z6 J J)<|bM h fun r1 q_r1 h=>zo J (aH S5 (Ln _ q_r1) ⟨(ht J),bm⟩) ?_;refine zo J (dD (ht J))<|ax J<|bM h fun t1 q_t1 h=>bX J J (fun hg=>bw Gs uf J J)<|bX J J (fun hg=>aF br J J (aG J hg)) ?_
   obtain⟨r2,h1t1,h0t1⟩:=og q_t1
   have q_r2g:=fun hb=>(h1t1 hb).1
   refine bX J J (fun hg=>aH WW (Rv _ (q_r2g hg)) ⟨(aG J hg),bm⟩)<|bX J J (fun hg=>qE (aG J hg) hS)<|zo J (dY (ht J) (fun hb=>(aG J (mW hb))) (fun hb=>(h1t1 hb).2) h0t1)<|al<|cz h J (fun h=>?_) (fun h=>?_)
   ·refine an<|zo J (ei)<|al<|aj ?_;refine aa (am (aa (aa (am (aa ?_)))));cases so h;exact aB J J
   ·refine dF<|an<|zo J (dv)<|al<|ap<|bE ?_;refine aJ (vS (Z:=fun n1 k=>ky t (iY t n) i e n1 k=some R) (Of:=fun k=>[]) (Gf:=fun k=>[(1,bF cT t),(3,bY i),(4,bF cH e),(5,bY k)]) (fun k h=>nn h) (fun n1 ih1 k h=>?_) gK (0:Int) h) (aQ J);refine av<|ae<|an<|ax J<|ax J<|zo J (eu J J)<|al<|cz h J (fun h=>?_) (fun h=>?_)
    ·refine dF<|ae<|ap<|ae<|bM h fun e1 q_e1 h=>?_
     refine er (ts:=[_,_,_,_,_,_,_,_,_]) mixed J J
      ⟨ic 1 J J J (bw pJ iQ J J),
      ⟨dc 50 0 J J J (bj yc J J),
      ⟨ic 5 J J J (cq J),
      ⟨eT 51 1 52 2 J J J J (gM sb pg J J J q_e1),
      ⟨dc 53 3 J J J (bw Gt ug J J),
      ⟨dc 54 4 J J J (bj z6 J J),
      ⟨ic 4 J J J (bw Gt ug J J),
      ⟨dc 56 6 J J J (bj z6 J J),
      ⟨eT 55 5 57 7 J J J J (qE (ht J) (ht J)),
      bm⟩⟩⟩⟩⟩⟩⟩⟩⟩ ?_
     refine ai<|cz h rfl (fun h=>?_) (fun h=>?_)
     ·refine an<|zo J (ei)<|al<|aj ?_;refine am (aa (aa (am (am (aa (aa (am (aa ?_))))))));cases so h;exact aB J J
     ·refine aO<|af<|ai<|ah<|ax rfl<|zo rfl (fm (ht rfl) hI)<|aY rfl<|aC ?_;exact aM (aJ (ih1 (IntKind.i64.wrap (k+(1:Int))) h) (aQ J))
    ·refine bf ?_;refine ac (ac (aI ?_));refine af<|ai<|ah<|ax rfl<|zo rfl (fm (ht rfl) hI)<|aY rfl<|aC ?_;exact aM (aJ (ih (IntKind.i64.wrap (i+(1:Int))) h) (aQ J))
  ·refine bf ?_;refine ac (ac (aI ?_));refine ai<|ae<|an<|zo rfl (dv)<|al<|ap<|bE ?_;refine aJ (vS (Z:=fun n2 i1=>kx t n2 i1=some R) (Of:=fun i1=>[]) (Gf:=fun i1=>[(1,bF cT t),(6,bY i1)]) (fun i1 h=>nn h) (fun n2 ih2 i1 h=>?_) gK (0:Int) h) (aQ J);refine av<|ae<|an<|ax J<|zo J (bw tp mp J J)<|zo J (bj bV J J)<|zo J (fU cZ J)<|zo J (eu J J)<|al<|cz h J (fun h=>?_) (fun h=>?_)
   ·refine dF<|ae<|ap<|ae<|bM h fun e2 q_e2 h=>bM h fun t2 q_t2 h=>?_
    obtain⟨t3,h1t2,h0t2⟩:=og q_t2
    have q_t3g:=fun hb=>(h1t2 hb).1
    obtain⟨e3,h1t3,h0t3⟩:=Vx q_t3g
    have q_e3g:=fun hb=>(h1t3 hb).1
    refine er (ts:=[_,_,_,_,_,_,_,_,_,_,_,_,_,_,_,_,_,_,_,_,_,_,_,_,_,_,_,_,_,_,_,_,_,_,_]) mixed J J
     ⟨ic 1 J J J (bw tp mp J J),
     ⟨dc 66 0 J J J (bj bV J J),
     ⟨ic 6 J J J (cq J),
     ⟨eT 67 1 68 2 J J J J (gM cZ br J J J q_e2),
     ⟨dc 69 3 J J J (bj br J J),
     ⟨dc 70 4 J J J (eg (ht J) hI),
     ⟨dc 71 5 J J J (cq J),
     ⟨jn 1 72 6 J J J J (d9 J J J J (fun hg=>bw tp mp J J)),
     ⟨dR 73 7 72 6 J J J J (d9 J J J J (fun hg=>aF bV J J (aG J hg))),
     ⟨jn 6 72 6 J J J J (d9 J J J J (fun hg=>cq J)),
     ⟨mB 74 8 75 9 72 6 J J J J J (d9 J J J J (fun hg=>bW cZ br J (aG J hg) (aG J hg) q_e2)),
     ⟨dR 76 10 72 6 J J J J (d9 J J J J (fun hg=>aF br J J (aG J hg))),
     ⟨jn 1 72 6 J J J J (d9 J J J J (fun hg=>bw pJ iQ J J)),
     ⟨dR 78 12 72 6 J J J J (d9 J J J J (fun hg=>aF yc J J (aG J hg))),
     ⟨dR 79 13 72 6 J J J J (d9 J J J J (fun hg=>bg sb (aG J hg))),
     ⟨mB 77 11 80 14 72 6 J J J J J (d9 J J J J (fun hg=>cS (aG J hg) (aG J hg))),
     ⟨eT 72 6 81 15 J J J J (lH J J),
     ⟨dc 82 16 J J J (cq J),
     ⟨jn 6 83 17 J J J J (d9 J J J J (fun hg=>cq J)),
     ⟨dR 84 18 83 17 J J J J (d9 J J J J (fun hg=>dZ (aG J hg) hI)),
     ⟨dR 85 19 83 17 J J J J (d9 J J J J (fun hg=>bk (aG J hg))),
     ⟨jn 1 86 20 J J J J (pA J J J J (fun hg=>bw tp mp J J)),
     ⟨dR 87 21 86 20 J J J J (pA J J J J (fun hg=>aF bV J J (aG J hg))),
     ⟨jn 6 86 20 J J J J (pA J J J J (fun hg=>cq J)),
     ⟨dR 89 23 86 20 J J J J (pA J J J J (fun hg=>dn (aG J hg) hI)),
     ⟨mB 88 22 90 24 86 20 J J J J J (pA J J J J (fun hg=>bW cZ br J (aG J hg) (aG J hg) (q_e3g hg))),
     ⟨dR 91 25 86 20 J J J J (pA J J J J (fun hg=>aF br J J (aG J hg))),
     ⟨jn 1 86 20 J J J J (pA J J J J (fun hg=>bw tp mp J J)),
     ⟨dR 93 27 86 20 J J J J (pA J J J J (fun hg=>aF bV J J (aG J hg))),
     ⟨jn 6 86 20 J J J J (pA J J J J (fun hg=>cq J)),
     ⟨mB 94 28 95 29 86 20 J J J J J (pA J J J J (fun hg=>bW cZ br J (aG J hg) (aG J hg) q_e2)),
     ⟨dR 96 30 86 20 J J J J (pA J J J J (fun hg=>aF br J J (aG J hg))),
     ⟨mB 92 26 97 31 86 20 J J J J J (pA J J J J (fun hg=>cS (aG J hg) (aG J hg))),
     ⟨mB 86 20 98 32 83 17 J J J J J (d9 J J J J (fun hg=>cu (aG J hg) (fun hb=>(aG J (oa hg hb))) (fun hb=>(h1t3 (oa hg hb)).2) (fun hb=>h0t3 hg hb))),
     ⟨eT 83 17 99 33 J J J J (dY (ht J) (fun hb=>(aG J (mW hb))) (fun hb=>(h1t2 hb).2) h0t2),
     bm⟩⟩⟩⟩⟩⟩⟩⟩⟩⟩⟩⟩⟩⟩⟩⟩⟩⟩⟩⟩⟩⟩⟩⟩⟩⟩⟩⟩⟩⟩⟩⟩⟩⟩⟩ ?_
    refine ai<|cz h rfl (fun h=>?_) (fun h=>?_)
    ·refine an<|zo J (ei)<|al<|aj ?_;refine am (aa (aa (am (aa ?_))));cases so h;exact aB J J
    ·refine aO<|af<|ai<|ah<|ax rfl<|zo rfl (fm (ht rfl) hI)<|aY rfl<|aC ?_;exact aM (aJ (ih2 (IntKind.i64.wrap (i1+(1:Int))) h) (aQ J))
   ·refine bf ?_;refine ac (ac (aI ?_));refine ai<|an<|zo rfl (ei)<|al<|aj ?_;cases so h;exact aB J J

theorem Un(c:bG){R:Bool}(h:tW c=some R):bh be 49 [tD bJ c] (gD R):=by
 refine bh.of Tryz.func49 J J J fun w0 S0=>an<|zo J (lK J)<|zo J (ei)<|al<|ae<|an<|zo J (bw nV fI J J)<|zo J (bj vl J J)<|zo J (fU rC J)<|zo J (dZ (ht J) hI)<|al<|cz h J (fun h=>?_) (fun h=>?_)
 ·refine an<|zo J (ei)<|al<|aj<|aa ?_;cases so h;exact aB J J
 ·refine dF<|ae<|an<|zo J (dv)<|al<|ap<|bE ?_;refine aJ (vS (Z:=fun n i=>mH c n i=some R) (Of:=fun i=>[]) (Gf:=fun i=>[(1,bF bJ c),(3,bY i)]) (fun i h=>nn h) (fun n ih i h=>?_) gK (0:Int) h) (aQ J);refine av<|ae<|an<|ax J<|zo J (bw nV fI J J)<|zo J (bj vl J J)<|zo J (fU rC J)<|zo J (eu J J)<|al<|cz h J (fun h=>?_) (fun h=>?_)
  ·refine dF<|ae<|ap<|ae<|an<|zo J (bw nV fI J J)<|zo J (bj vl J J)<|ax J<|bM h fun e q_e h=>zo J (gM rC qi J J J q_e)<|zo J (bj qi J J)<|bM h fun r q_r h=>zo J (aH X8 (TZ _ q_r) ⟨(ht J),bm⟩)<|zo J (dD (ht J))<|al<|cz h J (fun h=>?_) (fun h=>?_)
   ·refine an<|zo J (ei)<|al<|aj ?_;refine aa (am (aa (aa (am (aa ?_)))));cases so h;exact aB J J
   ·refine dF<|an<|zo J (dv)<|al<|ap<|bE ?_;refine aJ (vS (Z:=fun n1 k=>oz c (mH c n) i e n1 k=some R) (Of:=fun k=>[]) (Gf:=fun k=>[(1,bF bJ c),(3,bY i),(4,bY k)]) (fun k h=>nn h) (fun n1 ih1 k h=>?_) gK (0:Int) h) (aQ J);refine av<|ae<|an<|ax J<|ax J<|zo J (eu J J)<|al<|cz h J (fun h=>?_) (fun h=>?_)
    ·refine dF<|ae<|ap<|ae<|bM h fun e1 q_e1 h=>?_
     refine er (ts:=[_,_,_,_,_,_,_,_,_,_,_,_,_]) mixed J J
      ⟨ic 1 J J J (bw nV fI J J),
      ⟨dc 28 0 J J J (bj vl J J),
      ⟨ic 4 J J J (cq J),
      ⟨eT 29 1 30 2 J J J J (gM rC qi J J J q_e1),
      ⟨dc 31 3 J J J (bw Dj tm J J),
      ⟨dc 32 4 J J J (bj z6 J J),
      ⟨ic 1 J J J (bw nV fI J J),
      ⟨dc 34 6 J J J (bj vl J J),
      ⟨ic 3 J J J (cq J),
      ⟨eT 35 7 36 8 J J J J (gM rC qi J J J q_e),
      ⟨dc 37 9 J J J (bw Dj tm J J),
      ⟨dc 38 10 J J J (bj z6 J J),
      ⟨eT 33 5 39 11 J J J J (qE (ht J) (ht J)),
      bm⟩⟩⟩⟩⟩⟩⟩⟩⟩⟩⟩⟩⟩ ?_
     refine ai<|cz h rfl (fun h=>?_) (fun h=>?_)
     ·refine an<|zo J (ei)<|al<|aj ?_;refine am (aa (aa (am (am (aa (aa (am (aa ?_))))))));cases so h;exact aB J J
     ·refine aO<|af<|ai<|ah<|ax rfl<|zo rfl (fm (ht rfl) hI)<|aY rfl<|aC ?_;exact aM (aJ (ih1 (IntKind.i64.wrap (k+(1:Int))) h) (aQ J))
    ·refine bf ?_;refine ac (ac (aI ?_));refine af<|ai<|ah<|ax rfl<|zo rfl (fm (ht rfl) hI)<|aY rfl<|aC ?_;exact aM (aJ (ih (IntKind.i64.wrap (i+(1:Int))) h) (aQ J))
  ·refine bf ?_;refine ac (ac (aI ?_));refine ai<|an<|zo rfl (ei)<|al<|aj ?_;cases so h;exact aB J J

theorem Lm(op:Int){R:Int}(h:pU op=some R):bh be 166 [bY op] (bY R):=by
 refine bh.of Tryz.func166 J J J fun w0 S0=>an<|zo J (dv)<|al<|ae<|an<|ax J<|al<|ap<|an<|zo J (eQ J)<|aY J<|al<|cz h J (fun h=>?_) (fun h=>?_)
 ·refine an<|zo J (dv)<|al<|aj ?_;refine am (aa ?_);cases so h;exact aB J J
 ·refine c0 (Z:=fun x=>oy op x=some R) (Of:=fun x=>[]) (Gf:=fun x=>[(3,bY op),(6,gD x)]) (fun x h=>?_) (fun K=>?_)
  ·skip
   refine cz h J (fun h=>?_) (fun h=>?_)
   ·refine an<|zo J (dv)<|al<|aj ?_;refine am (aa ?_);cases so h;exact aB J J
   ·refine c0 (Z:=fun x1=>jL x1=some R) (Of:=fun x1=>[]) (Gf:=fun x1=>[(9,gD x1)]) (fun x1 h=>?_) (fun K1=>?_)
    ·skip
     refine cz h J (fun h=>?_) (fun h=>?_)
     ·refine an<|zo J (dv)<|al<|aj ?_;refine am (aa ?_);cases so h;exact aB J J
     ·refine aO<|af<|ai<|an<|zo rfl (dv)<|al<|aj ?_;cases so h;exact aB J J
    ·skip
     refine an<|zo J (eQ J)<|aY J<|al<|cz h J (fun h=>?_) (fun h=>?_)
     ·refine aO ?_;exact bz (K1 (op==(3:Int)) h) (aQ J)
     ·refine an<|zo J (eQ J)<|aY J<|al<|cz h J (fun h=>?_) (fun h=>?_)
      ·refine aO ?_;exact bz (K1 (op==(4:Int)) h) (aQ J)
      ·refine an<|zo J (eQ J)<|aY J<|al<|cz h J (fun h=>?_) (fun h=>?_)
       ·refine aO ?_;exact bz (K1 (op==(5:Int)) h) (aQ J)
       ·refine an<|zo J (eQ J)<|aY J<|al<|cz h J (fun h=>?_) (fun h=>?_)
        ·refine aO ?_;exact bz (K1 (op==(6:Int)) h) (aQ J)
        ·refine ah<|zo J (eQ J)<|aY J<|aC ?_;exact bz (K1 (op==(8:Int)) h) (aQ J)
  ·skip
   refine an<|zo J (eQ J)<|aY J<|al<|cz h J (fun h=>?_) (fun h=>?_)
   ·refine aO ?_;exact bz (K (op==(2:Int)) h) (aQ J)
   ·refine ah<|zo J (eQ J)<|aY J<|aC ?_;exact bz (K (op==(7:Int)) h) (aQ J)

theorem RX(op:Int){R:Int}(h:tS op=some R):bh be 102 [bY op] (bY R):=by
 refine bh.of Tryz.func102 J J J fun w0 S0=>an<|zo J (dv)<|al<|ae<|an<|ax J<|al<|ap<|an<|zo J (eQ J)<|aY J<|al<|cz h J (fun h=>?_) (fun h=>?_)
 ·refine an<|zo J (dv)<|al<|aj ?_;refine am (aa ?_);cases so h;exact aB J J
 ·refine c0 (Z:=fun x=>qv op x=some R) (Of:=fun x=>[]) (Gf:=fun x=>[(0,bY op),(6,gD x)]) (fun x h=>?_) (fun K=>?_)
  ·skip
   refine cz h J (fun h=>?_) (fun h=>?_)
   ·refine an<|zo J (dv)<|al<|aj ?_;refine am (aa ?_);cases so h;exact aB J J
   ·refine aO<|af<|ai<|an<|ax rfl<|bM h fun r q_r h=>zo J (aH S4 (Lm _ q_r) ⟨(ht J),bm⟩)<|aY J<|al<|aj ?_;cases so h;exact aB J J
  ·skip
   refine an<|zo J (eQ J)<|aY J<|al<|cz h J (fun h=>?_) (fun h=>?_)
   ·refine aO ?_;exact bz (K (op==(10:Int)) h) (aQ J)
   ·refine ah<|zo J (eQ J)<|aY J<|aC ?_;exact bz (K (op==(11:Int)) h) (aQ J)

theorem QB: ∀(fu:Nat) (l:(List aw)) (at1:Int) {R:Int} (h:f8 fu l at1=some R),bh be 53 [eV (aA) l,bY at1] (bY R):=by
 intro fu
 induction fu with
 |zero=>intro l at1 R h;exact(nn h).elim
 |succ fu ih=>
  intro l at1 R h
  refine bh.of Tryz.func53 J J J fun w0 S0=>an<|zo J (dv)<|al<|ae<|an<|ax J<|zo J (eg (ht J) hI)<|ax J<|bX J J (fun hg=>cq J)<|bX J J (fun hg=>cq J)<|bX J J (fun hg=>bg ib (aG J hg))<|bX J J (fun hg=>cS (aG J hg) (aG J hg))<|zo J (lH J J)<|al<|cz h J (fun h=>?_) (fun h=>?_)
  ·refine an<|zo J (dv)<|al<|aj<|aa ?_;cases so h;exact aB J J
  ·refine dF<|an<|ax J<|ax J<|bM h fun e q_e h=>zo J (gM ib db J J J q_e)<|zo J (bj db J J)<|aZ (r:=aA) (x:=yF) db (fun _=>ev _) J fun b=>aE db J ay J (ht J) (ht J)<|aW 5 J<|al<|ae<|an<|zo J (bw eh cj J J)<|zo J (bj br J J)<|bM h fun r q_r h=>zo J (aH Xz (RX _ q_r) ⟨(ht J),bm⟩)<|al<|ap ?_;refine an<|zo J (eQ J)<|aY J<|al<|cz h J (fun h=>?_) (fun h=>?_)
   ·refine an<|zo J (bw iS dE J J)<|zo J (bj br J J)<|zo J (eQ J)<|ax J<|bo J J (fun hg=>bw kI ew J J)<|bo J J (fun hg=>aF br J J (aG J hg))<|bo J J (fun hg=>bq (aG J hg) hI)<|zo J (hZ J J)<|al<|cz h J (fun h=>?_) (fun h=>?_)
    ·refine an<|zo J (dv)<|al<|aj ?_;refine am (aa ?_);cases so h;exact aB J J
    ·refine aO<|af<|ai<|an<|zo rfl (dv)<|al<|aj ?_;cases so h;exact aB J J
   ·refine an<|zo J (eQ J)<|aY J<|al<|cz h J (fun h=>?_) (fun h=>?_)
    ·refine an<|ax J<|ax J<|zo J (dn (ht J) hI)<|bM h fun r1 q_r1 h=>zo J (aH Pi (ih _ _ q_r1) ⟨(ht J),(ht J),bm⟩)<|aY J<|al<|an<|zo J (bw iS dE J J)<|zo J (bj br J J)<|ax J<|zo J (dn (ht J) hI)<|zo J (bq (ht J) (ht J))<|ax J<|bo J J (fun hg=>bw kI ew J J)<|bo J J (fun hg=>aF br J J (aG J hg))<|bo J J (fun hg=>bq (aG J hg) hI)<|zo J (hZ J J)<|ax J<|bo J J (fun hg=>cq J) ?_;refine bo J J (fun hg=>dZ (aG J hg) hI)<|zo J (hZ J J)<|al<|cz h J (fun h=>?_) (fun h=>?_)
     ·refine an<|ax J<|zo J (fm (ht J) hI)<|aY J<|al<|aj ?_;refine am (aa ?_);cases so h;exact aB J J
     ·refine aO<|af<|ai<|an<|zo rfl (dv)<|al<|aj ?_;cases so h;exact aB J J
    ·refine an<|zo J (eQ J)<|aY J<|al<|cz h J (fun h=>?_) (fun h=>?_)
     ·refine an<|ax J<|ax J<|zo J (dn (ht J) hI)<|bM h fun r2 q_r2 h=>zo J (aH Pi (ih _ _ q_r2) ⟨(ht J),(ht J),bm⟩)<|aY J<|al<|ae<|an<|ax J<|zo J (eQ J)<|ax J<|bX J J (fun hg=>bw kI ew J J)<|bX J J (fun hg=>aF br J J (aG J hg))<|bX J J (fun hg=>cq J)<|bX J J (fun hg=>dn (aG J hg) hI)<|bX J J (fun hg=>cA (aG J hg) (aG J hg))<|zo J (lH J J)<|ax J<|bX J J (fun hg=>bw iS dE J J) ?_;refine bX J J (fun hg=>aF br J J (aG J hg))<|bX J J (fun hg=>cq J)<|bX J J (fun hg=>dn (aG J hg) hI)<|bX J J (fun hg=>cq J)<|bX J J (fun hg=>dn (aG J hg) (aG J hg))<|bX J J (fun hg=>cA (aG J hg) (aG J hg))<|zo J (lH J J)<|al<|cz h J (fun h=>?_) (fun h=>?_)
      ·refine an<|zo J (dv)<|al<|aj ?_;refine aa (am (aa ?_));cases so h;exact aB J J
      ·refine dF<|an<|ax J<|zo J (bw iS dE J J)<|zo J (bj br J J)<|bM h fun r3 q_r3 h=>zo J (aH Pi (ih _ _ q_r3) ⟨(ht J),(ht J),bm⟩)<|aY J<|al<|an<|ax J<|zo J (dZ (ht J) hI)<|al<|cz h J (fun h=>?_) (fun h=>?_)
       ·refine an<|ax J<|ax J<|zo J (fm (ht J) (ht J))<|zo J (fm (ht J) hI)<|aY J<|al<|aj ?_;refine am (aa ?_);cases so h;exact aB J J
       ·refine aO<|af<|ai<|an<|zo rfl (dv)<|al<|aj ?_;cases so h;exact aB J J
     ·refine aO<|af<|ai<|an<|zo rfl (dv)<|al<|aj ?_;cases so h;exact aB J J
theorem OV(l:(List aw))(at1:Int){R:Int}(h:s5 l at1=some R):bh be 53 [eV (aA) l,bY at1] (bY R):=QB gK l at1 h

end Go.Proofs.YtmogpgcfognefaaGreatDoor

