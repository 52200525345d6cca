/- di of this claim: P15. -/
import Derived.Test.YtmogpgcfognefaaGreatDoorNdT
import Derived.Test.YtmogpgcfognefaaGreatDoorNdP14
set_option linter.all false
namespace Go.Proofs.YtmogpgcfognefaaGreatDoor
open Go
set_option maxRecDepth 100000

theorem O8: ∀(fu:Nat) (l:eC) (at1:Int) {R:(List Int)×Bool} (h:fP fu l at1=some R),bh be 104 [tD qk l,bY at1] (tT [ji R.1,gD R.2]):=by
 intro fu
 induction fu with
 |zero=>intro l at1 R h;exact(nn h).elim
 |succ fu ih=>
  intro l at1 R h
  refine bh.of Tryz.func104 J J J fun w0 S0=>an<|zo J (lK J)<|zo J (aP (show aL _ _ _ pD from lJ))<|zo J (ei)<|al<|ae<|an<|zo J (bj AZ J J)<|ax J<|bM h fun r q_r h=>zo J (aH Lz (Ru _ _ q_r) ⟨(ht J),(ht J),bm⟩)<|zo J (eQ J)<|ax J<|bM h fun t q_t h=>bX J J (fun hg=>bw o8 tn J J)<|bX J J (fun hg=>aF n8 J J (aG J hg))<|bX J J (fun hg=>cq J) ?_
  obtain⟨e,h1t,h0t⟩:=og q_t
  have q_eg:=fun hb=>(h1t hb).1
  refine bX J J (fun hg=>bW ib db J (aG J hg) (aG J hg) (q_eg hg))<|bX J J (fun hg=>aF db J J (aG J hg)) ?_
  obtain⟨r1,h1t⟩:=G1 (fun hb=>(h1t hb).2)
  have q_r1g:=fun hb=>(h1t hb).1
  refine bX J J (fun hg=>aH LD (Ca _ (q_r1g hg)) ⟨(aG J hg),bm⟩)<|bX J J (fun hg=>dD (aG J hg))<|zo J (dY (ht J) (fun hb=>(aG J (mW hb))) (fun hb=>(h1t hb).2) h0t)<|al<|cz h J (fun h=>?_) (fun h=>?_)
  ·refine an<|zo J (aP (show aL _ _ _ pD from lJ))<|zo J (ei)<|al<|aj<|aa ?_;cases so h;exact cy J J J
  ·refine dF<|an<|zo J (bw o8 tn J J)<|zo J (bj n8 J J)<|ax J<|bM h fun e1 q_e1 h=>zo J (gM ib db J J J q_e1)<|zo J (bj db J J)<|aZ (r:=aA) (x:=yF) db (fun _=>ev _) J fun b=>aE db J ay J (ht J) (ht J)<|aW 6 J<|al<|an<|zo J (aP (show aL _ _ _ pD from lJ))<|zo J (aP (show aL _ _ _ pD from lJ))<|al ?_;refine c0 (Z:=fun a1=>ll (fP fu) l at1 e1 a1=some R) (Of:=fun a1=>[]) (Gf:=fun a1=>[(1,bY at1),(2,bF qk l),(6,bF aA e1),(7,ji a1),(8,ji ([]))]) (fun a1 h=>?_) (fun K=>?_)
   ·skip
    refine c0 (Z:=fun b1=>jM l at1 e1 a1 b1=some R) (Of:=fun b1=>[]) (Gf:=fun b1=>[(1,bY at1),(2,bF qk l),(6,bF aA e1),(7,ji a1),(8,ji b1)]) (fun b1 h=>?_) (fun K1=>?_)
    ·skip
     refine an<|zo J (bj db J J)<|ax J<|ax J<|bM h fun r2 q_r2 h=>zo J (aH WV (Rt _ _ _ q_r2) ⟨(ht J),(ht J),(ht J),bm⟩)<|ax J<|zo J (iA J J)<|zo J (iA J J)<|aY J<|aY J<|al<|ae<|an<|zo J (bw eh cj J J)<|zo J (bj br J J)<|zo J (eQ J)<|ax J<|bo J J (fun hg=>cq J)<|bo J J (fun hg=>bw o8 tn J J)<|bo J J (fun hg=>aF n8 J J (aG J hg)) ?_;refine bo J J (fun hg=>bg ib (aG J hg))<|bo J J (fun hg=>dn (aG J hg) hI)<|bo J J (fun hg=>cA (aG J hg) (aG J hg))<|zo J (hZ J J)<|ax J<|bX J J (fun hg=>cq J)<|bX J J (fun hg=>bg cZ (aG J hg))<|bX J J (fun hg=>dZ (aG J hg) hI)<|zo J (lH J J)<|al<|cz h J (fun h=>?_) (fun h=>?_)
     ·refine an<|zo J (aP (show aL _ _ _ pD from lJ))<|zo J (ei)<|al<|aj<|aa ?_;cases so h;exact cy J J J
     ·refine dF<|an<|ax J<|ax J<|aY J<|aY J<|al<|aj ?_;cases so h;exact cy J J J
    ·skip
     refine an<|zo J (bw kI ew J J)<|zo J (bj br J J)<|zo J (cS (ht J) hI)<|al<|cz h J (fun h=>?_) (fun h=>?_)
     ·refine an<|zo J (bj AZ J J)<|zo J (bw kI ew J J)<|zo J (bj br J J)<|bM h fun r3 q_r3 h=>zo J (aH Ps (ih _ _ q_r3) ⟨(ht J),(ht J),bm⟩)<|ax J<|zo J (iA J J)<|zo J (iA J J)<|aY J<|aY J<|al<|ae<|an<|ax J<|zo J (dD (ht J))<|al<|cz h J (fun h=>?_) (fun h=>?_)
      ·refine an<|zo J (aP (show aL _ _ _ pD from lJ))<|zo J (ei)<|al<|aj ?_;refine aa (aa ?_);cases so h;exact cy J J J
      ·refine dF<|ah<|ax J<|aY J<|aC ?_;exact bz (K1 r3.1 h) (aQ J)
     ·refine aO ?_;exact bz (K1 ([]) h) (aQ J)
   ·skip
    refine an<|zo J (bw iS dE J J)<|zo J (bj br J J)<|zo J (cS (ht J) hI)<|al<|cz h J (fun h=>?_) (fun h=>?_)
    ·refine an<|zo J (bj AZ J J)<|zo J (bw iS dE J J)<|zo J (bj br J J)<|bM h fun r4 q_r4 h=>zo J (aH Ps (ih _ _ q_r4) ⟨(ht J),(ht J),bm⟩)<|ax J<|zo J (iA J J)<|zo J (iA J J)<|aY J<|aY J<|al<|ae<|an<|ax J<|zo J (dD (ht J))<|al<|cz h J (fun h=>?_) (fun h=>?_)
     ·refine an<|zo J (aP (show aL _ _ _ pD from lJ))<|zo J (ei)<|al<|aj ?_;refine aa (aa ?_);cases so h;exact cy J J J
     ·refine dF<|ah<|ax J<|aY J<|aC ?_;exact bz (K r4.1 h) (aQ J)
    ·refine aO ?_;exact bz (K ([]) h) (aQ J)
theorem RW(l:eC)(at1:Int){R:(List Int)×Bool}(h:mX l at1=some R):bh be 104 [tD qk l,bY at1] (tT [ji R.1,gD R.2]):=O8 gK l at1 h

theorem JV(n:aw)(parts:(List (List Int))){R:(List Int)×Bool}(h:dH n parts=some R):bh be 56 [tD aA n,eV (jd) parts] (tT [ji R.1,gD R.2]):=by
 refine bh.of Tryz.func56 J J J fun w0 S0=>an<|vQ (ht J) J fun b=>zo J (aP (show aL _ _ _ pD from lJ))<|zo J (ei)<|al<|an<|cm true aA 50<|aZ (r:=m6) (x:=oH (⟨[]⟩:eC) (aD none 0 (([]:List aw).length))) AZ IX J fun b1=>al<|ae<|an<|ax J<|zo J (fU n7 J)<|zo J (bk hI)<|al<|ap<|aT (k:=14) J fun hN=>?_;refine bE<|dW<|dW<|ka ?_;refine aJ (tA (Z:=fun ls i n1 l l1 c=>(parts.drop i=ls)∧cd ls i n1 l=some R) (Of:=fun _ i n1 l l1 c=>[bx aA 50 b n1,bx m6 187 b1 (oH l (aD l1 c l.Nodes.length)),jx aA 50 l1 c l.Nodes]) (Gf:=fun _ i n1 l l1 c=>[(2,tV (aN b 0)),(6,tV (aN b1 0)),(14,eV (jd) parts),(15,gA parts),(16,bY (i:Int))]) (fun i n1 l l1 c h=>?_) (fun e tl ih i n1 l l1 c h=>?_) parts 0 n ({(⟨[]⟩:eC)with Nodes:=([]:List aw)}:eC) none 0 ⟨J,h⟩) (aQ J)
 ·obtain⟨hx,h⟩:=h
  refine av<|an<|zo J (eu J J)<|al<|ae<|bu (ht J) (dh hx)<|bf ?_;refine ac (ac (aI ?_));refine ai<|an<|zo rfl (fi 0 o8 rfl rfl rfl)<|zo rfl (j8 n8 o5 (.tail _ (.head _)) (.tail _ (.tail _ (.head _))) rfl (ht rfl))<|zo rfl (bl db rfl rfl bO (.head _) (ht rfl))<|zo rfl (ba (r:=aA) (ys:=[n1]) (xs:=[.tmp 71]) ib db J J J J J ⟨(ht J),bm⟩)<|fD<|bM h fun l2 q_l2 h=>pO db J J J J ib J J (ht J) (ht J) q_l2 fun l3 c1=>zo J (fi 0 o8 J J J)<|fD<|dP n8 J (rJ _ _ _) J (ht J) (Bg (D8 (ht J)))<|al<|an<|cg<|zo J (nd (q:=qk) (y:=({l with Nodes:=l2}:eC)) AZ J J J J (.tail _ (.head _)) (fun _ _ _ ho h=>BM (jl ho (.head _)) h) (ht J))<|zo J (fi 0 o8 J J J)<|zo J (j8 n8 o5 (.tail _ (.head _)) (.head _) J (ht J))<|zo J (bg ib (su (ht J)))<|zo J (dn (ht J) hI)<|bM h fun r q_r h=>?_;refine zo J (aH Ps (RW _ _ q_r) ⟨(ht J),(ht J),bm⟩)<|zo J (iA J J)<|zo J (iA J J)<|aY J<|aY J<|al<|aj<|aX<|aX<|aX ?_;cases so h;exact cy J J J
 ·obtain⟨hx,h⟩:=h
  refine av<|an<|zo J (eu J J)<|al<|ae<|bt (ht J) (dg hx)<|dF<|ae<|ap<|an<|ax J<|zo J (gM n7 bV J J J (dl hx))<|zo J (bj bV J J)<|aY J<|aY J<|al<|ae<|an ?_;refine ax J<|bM h fun r1 q_r1 h=>zo J (aH V9 (OS _ q_r1) ⟨(ht J),bm⟩)<|al<|cz h J (fun h=>?_) (fun h=>?_)
  ·refine an<|zo J (aP (show aL _ _ _ pD from lJ))<|zo J (ei)<|al<|aj ?_;refine aa (am (aa (aa (am (aa ?_)))));refine aX<|aX<|aX ?_;cases so h;exact cy J J J
  ·refine dF<|an<|zo J (ba (r:=cC) (ys:=[(1:Int),(2:Int),(3:Int)]) (xs:=[.const (.int .i64 (1)),.const (.int .i64 (2)),.const (.int .i64 (3))]) cZ br J J J J J ⟨hI,hI,hI,bm⟩)<|zo J (cI (y:=PW) db JP ev (⟨_,_,_,_,_,J,pF,J,hI,⟨_,_,_,_,_,J,s0,J,hI,⟨_,_,_,_,_,J,sZ,J,hI,⟨_,_,_,_,_,J,vq,J,(ht J),J⟩⟩⟩⟩))<|aZ (r:=aA) (x:=yF) db (fun _=>ev _) J fun b2=>aE db J ay J (ht J) (ht J)<|aW 9 J<|al<|an<|zo J (fi 0 o8 J J J)<|zo J (j8 n8 o5 (.tail _ (.head _)) (.tail _ (.tail _ (.head _))) J (ht J))<|zo J (bg ib (su (ht J)))<|cm true bn 45<|zo J (cI (y:=oI (⟨(5:Int),(l.Nodes.length:Int),uQ,(0:Int),[],false,se,[],[],[],[],(0:Int)⟩:aw) (aD none 0 (IZ.length))) db JP Cl (⟨_,_,_,_,_,J,FW,J,hI,⟨_,_,_,_,_,J,FV,J,(ht J),⟨_,_,_,_,_,J,FU,J,hI,J⟩⟩⟩))<|cm true bn 45<|aZ (r:=lc) (x:=oI yF (aD none 0 (IZ.length))) db Cl J fun b3=>fD<|cg<|dP db J (iX J) J (ht J) (ht J)<|fD ?_;refine uo<|al<|ae<|an<|ax J<|zo J (fU cZ J)<|zo J (bk hI)<|al<|ap<|aT (k:=29) J fun hN1=>bE<|dW<|dW<|AM<|AM<|AM ?_;refine aJ (me (Z:=fun ls1 i1 p l4 c2=>(e.drop i1=ls1)∧dJ (cd tl) i n1 l ls1 p=some R) (Of:=fun _ i1 p l4 c2=>[bx aA 50 b n1,bx m6 187 b1 (oH l (aD l1 c l.Nodes.length)),jx aA 50 l1 c l.Nodes,bx lc 50 b3 (oI p (aD l4 c2 p.Items.length)),jx bn 45 l4 c2 p.Items]) (Gf:=fun _ i1 p l4 c2=>[(2,tV (aN b 0)),(6,tV (aN b1 0)),(7,bY (i:Int)),(9,bF aA PW),(10,tV (aN b3 0)),(14,eV (jd) parts),(15,gA parts),(16,bY (i:Int)),(29,ji e),(30,gA e),(31,bY (i1:Int))]) (fun i1 p l4 c2 h=>?_) (fun e1 tl1 ih1 i1 p l4 c2 h=>?_) e 0 ({(⟨(5:Int),(l.Nodes.length:Int),uQ,(0:Int),[],false,se,[],[],[],[],(0:Int)⟩:aw)with Items:=IZ}:aw) none 0 ⟨J,h⟩) (aQ J)
   ·obtain⟨hx1,h⟩:=h
    refine av<|an<|zo J (eu J J)<|al<|ae<|bu (ht J) (dh hx1)<|bf ?_;refine ac (ac (aI ?_));refine ai<|an<|zo rfl (fi 0 o8 rfl rfl rfl)<|zo rfl (j8 n8 o5 (.tail _ (.head _)) (.tail _ (.tail _ (.head _))) rfl (ht rfl))<|zo rfl (bj db rfl rfl)<|AK<|zo rfl (nd (q:=aA) (y:=p) db J J J J (.tail _ (.tail _ (.tail _ (.tail _ (.head _))))) (fun _ _ _ ho h=>BN (jl ho (.head _)) h) (ht J))<|zo J (ba (r:=aA) (ys:=[PW,p]) (xs:=[.tmp 51,.tmp 52]) ib db J J J J J ⟨(ht J),(ht J),bm⟩)<|em<|bM h fun l5 q_l5 h=>pO db J J J J ib J J (ht J) (ht J) q_l5 fun l6 c3=>zo J (fi 0 o8 J J J)<|em<|dP n8 J (rJ _ _ _) J (ht J) (Bg (D8 (ht J)))<|al<|an<|ax J<|zo J (eQ J)<|al<|cz h J (fun h=>?_) (fun h=>?_)
    ·refine ah<|zo J (fi 0 o8 J J J)<|zo J (j8 n8 o5 (.head _) (.tail _ (.head _)) J (ht J))<|zo J (bg ib (su (ht J)))<|zo J (dn (ht J) hI)<|zo J (fi 1 iS J J J)<|em<|aE br J s0 J (ht J) (ht J)<|aC<|af<|ai<|ah<|zo rfl (je (cx hx hN) rfl)<|ax rfl<|aC<|bS<|aX<|bS<|aX ?_;exact aM (aJ (ih (i+1) (aw.mk n1.Op (IntKind.i64.wrap ((l5.length:Int)-(1:Int))) n1.B n1.Table n1.Kinds n1.Left n1.Cond n1.Keys n1.Aggs n1.Items n1.Order n1.Limit) ({l with Nodes:=l5}:eC) l6 c3 ⟨cw hx,h⟩) (aQ J))
    ·refine ah<|zo J (fi 0 o8 J J J)<|zo J (j8 n8 o5 (.head _) (.tail _ (.head _)) J (ht J))<|zo J (bg ib (su (ht J)))<|zo J (dn (ht J) hI)<|zo J (fi 2 kI J J J)<|em<|aE br J sZ J (ht J) (ht J)<|aC<|af<|ai<|ah<|zo rfl (je (cx hx hN) rfl)<|ax rfl<|aC<|bS<|aX<|bS<|aX ?_;exact aM (aJ (ih (i+1) (aw.mk n1.Op n1.A (IntKind.i64.wrap ((l5.length:Int)-(1:Int))) n1.Table n1.Kinds n1.Left n1.Cond n1.Keys n1.Aggs n1.Items n1.Order n1.Limit) ({l with Nodes:=l5}:eC) l6 c3 ⟨cw hx,h⟩) (aQ J))
   ·obtain⟨hx1,h⟩:=h
    refine av<|an<|zo J (eu J J)<|al<|ae<|bt (ht J) (dg hx1)<|dF<|ae<|ap<|an<|zo J (gM cZ br J J J (dl hx1))<|zo J (bj br J J)<|aY J<|al<|an<|zo J (cI (y:=(⟨(1:Int),(0:Int),(0:Int),(0:Int),xx⟩:bD)) dk SU kX (⟨_,_,_,_,_,J,CD,J,hI,J⟩))<|aZ (r:=aV) (x:=D4) dk (fun _=>kX _) J fun b4=>aE dk J ay J (ht J) (ht J) ?_;refine al ?_;refine c0 (Z:=fun e2=>lU (dJ (cd tl) i n1 l tl1) p e2=some R) (Of:=fun e2=>[bx aA 50 b n1,bx aV 149 b4 e2,bx m6 187 b1 (oH l (aD l1 c l.Nodes.length)),jx aA 50 l1 c l.Nodes,bx lc 50 b3 (oI p (aD l4 c2 p.Items.length)),jx bn 45 l4 c2 p.Items]) (Gf:=fun e2=>[(2,tV (aN b 0)),(6,tV (aN b1 0)),(7,bY (i:Int)),(9,bF aA PW),(10,tV (aN b3 0)),(13,tV (aN b4 0)),(14,eV (jd) parts),(15,gA parts),(16,bY (i:Int)),(29,ji e),(30,gA e),(31,bY (i1:Int))]) (fun e2 h=>?_) (fun K=>?_)
    ·skip
     obtain⟨r2,q_r2,h⟩:=bs h
     refine pr 5 (ts:=[tV (aN b3 9),tO bn l4 c2 p.Items,tD aV e2,tD bn r2,eV (bn) ([r2])]) mixed J J J
      ⟨ic 10 J J J (fi 9 rh J J J),
      ⟨dc 41 0 J J J (j8 yW Gq (.tail _ (.tail _ (.tail _ (.tail _ (.head _))))) (.tail _ (.tail _ (.tail _ (.tail _ (.tail _ (.head _)))))) J (ht J)),
      ⟨ic 13 J J J (bl dk J J bO (.tail _ (.head _)) (ht J)),
      ⟨dc 43 2 J J J (aH Yx (Uf _ _ q_r2) ⟨(ht J),lJ,bm⟩),
      ⟨dc 44 3 J J J (ba (r:=bn) (ys:=[r2]) (xs:=[.tmp 44]) rD fG J J J J J ⟨(ht J),bm⟩),
      bm⟩⟩⟩⟩⟩ ?_
     refine Fu<|bM h fun l7 q_l7 h=>pO fG J J J J rD J J (ht J) (ht J) q_l7 fun l8 c4=>zo J (fi 9 rh J J J)<|Fu<|dP yW J (wv _ _ _) J (ht J) (Bg (D8 (ht J)))<|aC<|af<|ai<|ah<|zo rfl (je (cx hx1 hN1) rfl)<|ax rfl<|aC<|bS<|aX<|aU<|aU<|gZ<|gZ<|gZ ?_;exact aM (aJ (ih1 (i1+1) ({p with Items:=l7}:aw) l8 c4 ⟨cw hx1,h⟩) (aQ J))
    ·skip
     refine an<|ax J<|zo J (dZ (ht J) hI)<|al<|cz h J (fun h=>?_) (fun h=>?_)
     ·refine ah<|ax J<|zo J (dn (ht J) hI)<|zo J (cI (y:=(⟨(2:Int),(0:Int),(0:Int),(IntKind.i64.wrap (e1-(1:Int))),xx⟩:bD)) dk SU kX (⟨_,_,_,_,_,J,CD,J,hI,⟨_,_,_,_,_,J,Ji,J,(ht J),J⟩⟩))<|aE dk J ay J (ht J) (ht J)<|aC<|nO<|nO<|nO<|nO<|gZ<|nO ?_;exact bz (K (⟨(2:Int),(0:Int),(0:Int),(IntKind.i64.wrap (e1-(1:Int))),xx⟩:bD) h) (aQ J)
     ·refine aO<|nO<|nO<|nO<|nO<|gZ<|nO ?_;exact bz (K (⟨(1:Int),(0:Int),(0:Int),(0:Int),xx⟩:bD) h) (aQ J)

theorem QA(n:aw)(kinds:(List Int)){R:(List Int)}(h:nC n kinds=some R):gk be 57 [tD aA n,ji kinds] false cC 3 R:=by
 refine gk.of Tryz.func57 J J J fun w0 S0=>an<|zo J (lK J)<|cm false cC 3<|zo J (aP tE)<|al<|an<|gy (r:=cC) (ys:=ny) (xs:=[]) cZ br J J J J J trivial J fun l c=>ax J<|bM h fun out q_out h=>cn br J J J J cZ J J (ht J) (ht J) q_out fun l1 c1=>aY J<|al<|ae<|an<|zo J (bw ki eO J J)<|zo J (bj sf J J)<|zo J (fU nw J)<|zo J (bk hI) ?_;refine al<|ap<|aT (k:=12) J fun hN=>bE<|dW<|pB ?_;refine aJ (jY (Z:=fun ls i out1=>(n.Aggs.drop i=ls)∧kS n ls i out1=some R) (Of:=fun _ i out1=>[cY cC 3 l1 c1 out1]) (Gf:=fun _ i out1=>[(2,bF aA n),(5,mU l1 c1 out1),(12,eV (dz) n.Aggs),(13,gA n.Aggs),(14,bY (i:Int))]) (fun i out1 h=>?_) (fun e tl ih i out1 h=>?_) n.Aggs 0 out ⟨J,h⟩) (aQ J)
 ·obtain⟨hx,h⟩:=h
  refine av<|an<|zo J (eu J J)<|al<|ae<|bu (ht J) (dh hx)<|bf ?_;refine ac (ac (aI ?_));refine ai<|an<|ax rfl<|aY rfl<|al<|aj ?_;cases so h;exact iu J J
 ·obtain⟨hx,h⟩:=h
  refine av<|an<|zo J (eu J J)<|al<|ae<|bt (ht J) (dg hx)<|dF<|ae<|ap<|an<|ax J<|zo J (gM nw gS J J J (dl hx))<|zo J (bj gS J J)<|aZ (r:=dz) (x:=FK) gS (fun _=>vi _) J fun b=>aY J<|aE gS J ay J (ht J) (ht J)<|aW 7 J<|al<|ae ?_;refine ah<|zo J (bw kJ iR J J)<|zo J (bj br J J)<|zo J (eQ J)<|al<|cz h J (fun h=>?_) (fun h=>?_)
  ·refine ah<|ax J<|zo J (bw jk dO J J)<|zo J (bj bV J J)<|zo J (fU cZ J)<|ax J<|zo J (fm (ht J) (ht J))<|bM h fun e1 q_e1 h=>zo J (bT cZ br (.head _) (ht J) (ht J) q_e1)<|bM h fun st q_st h=>lP br J ay J q_e1 (so q_st) (ht J) hI<|jw (iq (so q_st)) 5 J<|jw (iq (so q_st)) 22 J<|aC<|af<|ai<|ah<|zo rfl (je (cx hx hN) rfl)<|ax rfl<|aC ?_;exact aM (aJ (ih (i+1) st ⟨cw hx,h⟩) (aQ J))
  ·refine aO<|af<|ai<|ah<|zo rfl (je (cx hx hN) rfl)<|ax rfl<|aC ?_;exact aM (aJ (ih (i+1) out1 ⟨cw hx,h⟩) (aQ J))
theorem Uh(n:aw)(a1:(List Int)){R:(List Int)×Bool}(h:ot n a1=some R):bh be 58 [tD aA n,ji a1] (tT [ji R.1,gD R.2]):=by
 refine bh.of Tryz.func58 J J J fun w0 S0=>an<|zo J (lK J)<|zo J (aP (show aL _ _ _ pD from lJ))<|zo J (ei)<|al<|ae<|an<|zo J (bw jk dO J J)<|zo J (bj bV J J)<|zo J (fU cZ J)<|zo J (dZ (ht J) hI)<|ax J<|bX J J (fun hg=>bw ki eO J J)<|bX J J (fun hg=>aF sf J J (aG J hg))<|bX J J (fun hg=>bg nw (aG J hg))<|bX J J (fun hg=>dZ (aG J hg) hI)<|zo J (lH J J)<|ax J<|bX J J (fun hg=>bw jk dO J J)<|bX J J (fun hg=>aF bV J J (aG J hg)) ?_;refine bX J J (fun hg=>bg cZ (aG J hg))<|bX J J (fun hg=>bw ki eO J J)<|bX J J (fun hg=>aF sf J J (aG J hg))<|bX J J (fun hg=>bg nw (aG J hg))<|bX J J (fun hg=>fm (aG J hg) (aG J hg))<|bX J J (fun hg=>cq J)<|bX J J (fun hg=>bg cZ (aG J hg))<|bX J J (fun hg=>cA (aG J hg) (aG J hg))<|zo J (lH J J)<|ax J<|bX J J (fun hg=>cq J)<|bX J J (fun hg=>bg cZ (aG J hg))<|bX J J (fun hg=>bq (aG J hg) hI)<|zo J (lH J J)<|al<|cz h J (fun h=>?_) (fun h=>?_)
 ·refine an<|zo J (aP (show aL _ _ _ pD from lJ))<|zo J (ei)<|al<|aj<|aa ?_;cases so h;exact cy J J J
 ·refine dF<|an<|cm false cC 3<|zo J (aP tE)<|al<|ae<|an<|zo J (bw jk dO J J)<|zo J (bj bV J J)<|zo J (fU cZ J)<|zo J (bk hI)<|al<|ap<|aT (k:=40) J fun hN=>bE ?_;refine aJ (me (Z:=fun ls i out l c=>(n.Keys.drop i=ls)∧mG n a1 ls i out=some R) (Of:=fun _ i out l c=>[cY cC 3 l c out]) (Gf:=fun _ i out l c=>[(1,ji a1),(2,bF aA n),(6,mU l c out),(40,ji n.Keys),(41,gA n.Keys),(42,bY (i:Int))]) (fun i out l c h=>?_) (fun e tl ih i out l c h=>?_) n.Keys 0 ny none 0 ⟨J,h⟩) (aQ J)
  ·obtain⟨hx,h⟩:=h
   refine av<|an<|zo J (eu J J)<|al<|ae<|bu (ht J) (dh hx)<|bf ?_;refine ac (ac (aI ?_));refine ai<|ae<|an<|zo rfl (bw ki eO rfl rfl)<|zo rfl (bj sf rfl rfl)<|zo rfl (fU nw rfl)<|zo rfl (bk hI)<|al<|ap<|aT (k:=66) J fun hN1=>bE ?_;refine aJ (me (Z:=fun ls1 i1 out1 l1 c1=>(n.Aggs.drop i1=ls1)∧fh n a1 ls1 i1 out1=some R) (Of:=fun _ i1 out1 l1 c1=>[cY cC 3 l1 c1 out1]) (Gf:=fun _ i1 out1 l1 c1=>[(1,ji a1),(2,bF aA n),(6,mU l1 c1 out1),(66,eV (dz) n.Aggs),(67,gA n.Aggs),(68,bY (i1:Int))]) (fun i1 out1 l1 c1 h=>?_) (fun e1 tl1 ih1 i1 out1 l1 c1 h=>?_) n.Aggs 0 out l c ⟨J,h⟩) (aQ J)
   ·obtain⟨hx1,h⟩:=h
    refine av<|an<|zo J (eu J J)<|al<|ae<|bu (ht J) (dh hx1)<|bf ?_;refine ac (ac (aI ?_));refine ai<|an<|ax rfl<|aY rfl<|zo rfl (ei)<|al<|aj<|gL<|eK 6 rfl<|eK 107 rfl<|eK 4 rfl<|mT 4 rfl<|aX ?_;cases so h;exact cy J J J
   ·obtain⟨hx1,h⟩:=h
    refine av<|an<|zo J (eu J J)<|al<|ae<|bt (ht J) (dg hx1)<|dF<|ae<|ap<|an<|ax J<|zo J (gM nw gS J J J (dl hx1))<|zo J (bj gS J J)<|aZ (r:=dz) (x:=FK) gS (fun _=>vi _) J fun b=>aY J<|aE gS J ay J (ht J) (ht J)<|aW 10 J<|al<|ae ?_;refine ah<|ax J<|zo J (bw jk dO J J)<|zo J (bj bV J J)<|zo J (fU cZ J)<|ax J<|zo J (fm (ht J) (ht J))<|bM h fun e2 q_e2 h=>zo J (gM cZ br J J J q_e2)<|zo J (bj br J J)<|aY J<|al<|ae<|an<|zo J (bw ry qH J J)<|zo J (bw d3 cU J J)<|zo J (bj jZ J J)<|zo J (fU pi J)<|zo J (dZ (ht J) hI)<|al<|cz h J (fun h=>?_) (fun h=>?_)
    ·refine an<|zo J (aP (show aL _ _ _ pD from lJ))<|zo J (ei)<|al<|aj ?_;refine aa (am (aa (aa (am (aa ?_)))));refine aX ?_;cases so h;exact cy J J J
    ·refine dF<|ae<|an<|zo J (bw kJ iR J J)<|zo J (bj br J J)<|al<|ap ?_;refine c0 (Z:=fun x=>oq (fh n a1 tl1) i1 e1 out1 e2 x=some R) (Of:=fun x=>[cY cC 3 l1 c1 out1]) (Gf:=fun x=>[(1,ji a1),(2,bF aA n),(6,mU l1 c1 out1),(11,bY e2),(66,eV (dz) n.Aggs),(67,gA n.Aggs),(68,bY (i1:Int)),(87,bY e1.Tag),(88,gD x)]) (fun x h=>?_) (fun K=>?_)
     ·skip
      refine cz h J (fun h=>?_) (fun h=>?_)
      ·refine an<|ax J<|zo J (uP J)<|al<|cz h J (fun h=>?_) (fun h=>?_)
       ·refine an<|zo J (aP (show aL _ _ _ pD from lJ))<|zo J (ei)<|al<|aj ?_;refine am (aa (am (aa (aa (am (aa ?_))))));refine aX ?_;cases so h;exact cy J J J
       ·refine aO<|af<|ai<|ah<|ax rfl<|ax rfl<|zo rfl (ba (r:=cC) (ys:=[e2]) (xs:=[.tmp 103]) cZ br J J J J J ⟨(ht J),bm⟩)<|bM h fun out2 q_out2 h=>cn br J J J J cZ J J (ht J) (ht J) q_out2 fun l2 c2=>aY J<|aC<|af<|ai<|ah<|zo rfl (je (cx hx1 hN1) rfl)<|ax rfl<|aC ?_;exact aM (aJ (ih1 (i1+1) out2 l2 c2 ⟨cw hx1,h⟩) (aQ J))
      ·refine an<|zo J (eQ J)<|aY J<|al<|cz h J (fun h=>?_) (fun h=>?_)
       ·refine ae<|an<|ax J<|zo J (uP J)<|al<|cz h J (fun h=>?_) (fun h=>?_)
        ·refine an<|zo J (aP (show aL _ _ _ pD from lJ))<|zo J (ei)<|al<|aj ?_;refine aa (am (aa (am (aa (aa (am (aa ?_)))))));refine aX ?_;cases so h;exact cy J J J
        ·refine dF<|ah<|zo J (dv)<|aC<|af<|ai<|ah<|ax rfl<|ax rfl<|zo rfl (ba (r:=cC) (ys:=[(2:Int)]) (xs:=[.tmp 103]) cZ br J J J J J ⟨(ht J),bm⟩)<|bM h fun out3 q_out3 h=>cn br J J J J cZ J J (ht J) (ht J) q_out3 fun l3 c3=>aY J<|aC<|af<|ai<|ah<|zo rfl (je (cx hx1 hN1) rfl)<|ax rfl<|aC ?_;exact aM (aJ (ih1 (i1+1) out3 l3 c3 ⟨cw hx1,h⟩) (aQ J))
       ·refine c0 (Z:=fun x1=>oo (fh n a1 tl1) i1 out1 e2 x1=some R) (Of:=fun x1=>[cY cC 3 l1 c1 out1]) (Gf:=fun x1=>[(1,ji a1),(2,bF aA n),(6,mU l1 c1 out1),(11,bY e2),(66,eV (dz) n.Aggs),(67,gA n.Aggs),(68,bY (i1:Int)),(97,gD x1)]) (fun x1 h=>?_) (fun K1=>?_)
        ·skip
         refine cz h J (fun h=>?_) (fun h=>?_)
         ·refine an<|ax J<|zo J (eQ J)<|al<|cz h J (fun h=>?_) (fun h=>?_)
          ·refine an<|zo J (aP (show aL _ _ _ pD from lJ))<|zo J (ei)<|al<|aj ?_;refine am (aa (am (aa (aa (am (aa ?_))))));refine aX ?_;cases so h;exact cy J J J
          ·refine aO<|af<|ai<|ah<|ax rfl<|ax rfl<|zo rfl (ba (r:=cC) (ys:=[e2]) (xs:=[.tmp 103]) cZ br J J J J J ⟨(ht J),bm⟩)<|bM h fun out4 q_out4 h=>cn br J J J J cZ J J (ht J) (ht J) q_out4 fun l4 c4=>aY J<|aC<|af<|ai<|ah<|zo rfl (je (cx hx1 hN1) rfl)<|ax rfl<|aC ?_;exact aM (aJ (ih1 (i1+1) out4 l4 c4 ⟨cw hx1,h⟩) (aQ J))
         ·refine an<|zo J (aP (show aL _ _ _ pD from lJ))<|zo J (ei)<|al<|aj ?_;refine am (aa (am (aa (aa (am (aa ?_))))));refine aX ?_;cases so h;exact cy J J J
        ·skip
         refine an<|zo J (eQ J)<|aY J<|al<|cz h J (fun h=>?_) (fun h=>?_)
         ·refine aO ?_;exact bz (K1 (e1.Tag==(4:Int)) h) (aQ J)
         ·refine ah<|zo J (eQ J)<|aY J<|aC ?_;exact bz (K1 (e1.Tag==(5:Int)) h) (aQ J)
     ·skip
      refine an<|zo J (eQ J)<|aY J<|al<|cz h J (fun h=>?_) (fun h=>?_)
      ·refine aO ?_;exact bz (K (e1.Tag==(1:Int)) h) (aQ J)
      ·refine ah<|zo J (eQ J)<|aY J<|aC ?_;exact bz (K (e1.Tag==(2:Int)) h) (aQ J)
  ·obtain⟨hx,h⟩:=h
   refine av<|an<|zo J (eu J J)<|al<|ae<|bt (ht J) (dg hx)<|dF<|ae<|ap<|an<|ax J<|zo J (gM cZ br J J J (dl hx))<|zo J (bj br J J)<|aY J<|aY J<|al<|ae<|an ?_;refine ax J<|ax J<|zo J (cA (ht J) (ht J))<|ax J<|bM h fun t q_t h=>bX J J (fun hg=>cq J)<|bX J J (fun hg=>cq J) ?_
   obtain⟨e3,h1t,h0t⟩:=og q_t
   have q_e3g:=fun hb=>(h1t hb).1
   refine bX J J (fun hg=>bW cZ br J (aG J hg) (aG J hg) (q_e3g hg))<|bX J J (fun hg=>aF br J J (aG J hg))<|bX J J (fun hg=>bq (aG J hg) hI)<|zo J (dY (ht J) (fun hb=>(aG J (mW hb))) (fun hb=>(h1t hb).2) h0t)<|al<|cz h J (fun h=>?_) (fun h=>?_)
   ·refine an<|zo J (aP (show aL _ _ _ pD from lJ))<|zo J (ei)<|al<|aj ?_;refine aa (am (aa (aa (am (aa ?_)))));refine aX ?_;cases so h;exact cy J J J
   ·refine dF<|ah<|ax J<|ax J<|ax J<|bM h fun e4 q_e4 h=>zo J (gM cZ br J J J q_e4)<|zo J (bj br J J)<|zo J (ba (r:=cC) (ys:=[e4]) (xs:=[.tmp 61]) cZ br J J J J J ⟨(ht J),bm⟩)<|bM h fun out5 q_out5 h=>cn br J J J J cZ J J (ht J) (ht J) q_out5 fun l5 c5=>aY J<|aC<|af<|ai<|ah<|zo rfl (je (cx hx hN) rfl)<|ax rfl<|aC ?_;exact aM (aJ (ih (i+1) out5 l5 c5 ⟨cw hx,h⟩) (aQ J))

end Go.Proofs.YtmogpgcfognefaaGreatDoor

