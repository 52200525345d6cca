/- di of this claim: P13. -/
import Derived.Test.YtmogpgcfognefaaGreatDoorNdT
import Derived.Test.YtmogpgcfognefaaGreatDoorNdP12
set_option linter.all false
namespace Go.Proofs.YtmogpgcfognefaaGreatDoor
open Go
set_option maxRecDepth 100000

theorem Ca(n:aw){R:Bool}(h:oY n=some R):bh be 103 [tD aA n] (gD R):=by
 refine bh.of Tryz.func103 J J J fun w0 S0=>an<|zo J (lK J)<|zo J (ei)<|al<|ae<|an<|zo J (bw eh cj J J)<|zo J (bj br J J)<|zo J (uP J)<|ax J<|bo J J (fun hg=>bw kj d8 J J)<|bo J J (fun hg=>aF br J J (aG J hg))<|bo J J (fun hg=>cA (aG J hg) hI)<|bo J J (fun hg=>bk (aG J hg))<|ck J J J J (fun hg=>bw jV d7 J J)<|ck J J J J (fun hg=>aF bV J J (aG J hg))<|ck J J J J (fun hg=>bg cZ (aG J hg))<|ck J J J J (fun hg=>dZ (aG J hg) hI)<|bo J J (fun hg=>j7 (aG J hg) (fun hb=>(aG J (oa hg (mW hb)))))<|zo J (hZ J J) ?_;refine al<|cz h J (fun h=>?_) (fun h=>?_)
 ·refine an<|zo J (ei)<|al<|aj<|aa ?_;cases so h;exact aB J J
 ·refine dF<|ae<|an<|zo J (bw eh cj J J)<|zo J (bj br J J)<|zo J (uP J)<|ax J<|bo J J (fun hg=>bw OQ Dg J J)<|bo J J (fun hg=>aF NB J J (aG J hg))<|zo J (hZ J J)<|ax J<|bX J J (fun hg=>bw eh cj J J)<|bX J J (fun hg=>aF br J J (aG J hg))<|bX J J (fun hg=>cA (aG J hg) hI)<|bX J J (fun hg=>bk (aG J hg))<|dm J J J J (fun hg=>bw eh cj J J)<|dm J J J J (fun hg=>aF br J J (aG J hg))<|dm J J J J (fun hg=>cA (aG J hg) hI)<|bX J J (fun hg=>iP (aG J hg) (fun hb=>(aG J (oa hg hb))))<|bX J J (fun hg=>bk (aG J hg))<|dm J J J J (fun hg=>bw uE oP J J)<|dm J J J J (fun hg=>cR d3 J cU J (aG J hg)) ?_;refine dm J J J J (fun hg=>aF jZ J J (aG J hg))<|dm J J J J (fun hg=>bg pi (aG J hg))<|dm J J J J (fun hg=>dZ (aG J hg) hI)<|bX J J (fun hg=>iP (aG J hg) (fun hb=>(aG J (oa hg hb))))<|zo J (lH J J)<|al<|cz h J (fun h=>?_) (fun h=>?_)
  ·refine an<|zo J (ei)<|al<|aj<|aa ?_;cases so h;exact aB J J
  ·refine dF<|ae<|an<|zo J (bw eh cj J J)<|zo J (bj br J J)<|zo J (uP J)<|ax J<|bo J J (fun hg=>bw jk dO J J)<|bo J J (fun hg=>aF bV J J (aG J hg))<|bo J J (fun hg=>bg cZ (aG J hg))<|bo J J (fun hg=>dZ (aG J hg) hI)<|bo J J (fun hg=>bk (aG J hg))<|ck J J J J (fun hg=>bw ki eO J J)<|ck J J J J (fun hg=>aF sf J J (aG J hg))<|ck J J J J (fun hg=>bg nw (aG J hg))<|ck J J J J (fun hg=>dZ (aG J hg) hI)<|bo J J (fun hg=>j7 (aG J hg) (fun hb=>(aG J (oa hg (mW hb)))))<|zo J (hZ J J)<|ax J<|bX J J (fun hg=>bw eh cj J J)<|bX J J (fun hg=>aF br J J (aG J hg))<|bX J J (fun hg=>cA (aG J hg) hI) ?_;refine bX J J (fun hg=>bk (aG J hg))<|dm J J J J (fun hg=>bw rh nh J J)<|dm J J J J (fun hg=>aF yW J J (aG J hg))<|dm J J J J (fun hg=>bg rD (aG J hg))<|dm J J J J (fun hg=>dZ (aG J hg) hI)<|bX J J (fun hg=>iP (aG J hg) (fun hb=>(aG J (oa hg hb))))<|zo J (lH J J)<|al<|cz h J (fun h=>?_) (fun h=>?_)
   ·refine an<|zo J (ei)<|al<|aj<|aa ?_;cases so h;exact aB J J
   ·refine dF<|an<|zo J (bw eh cj J J)<|zo J (bj br J J)<|zo J (eQ J)<|ax J<|bX J J (fun hg=>bw px io J J)<|bX J J (fun hg=>aF yV J J (aG J hg))<|bX J J (fun hg=>bg ve (aG J hg))<|bX J J (fun hg=>bq (aG J hg) hI)<|bX J J (fun hg=>bk (aG J hg))<|dm J J J J (fun hg=>bw uh mY J J)<|dm J J J J (fun hg=>aF br J J (aG J hg))<|dm J J J J (fun hg=>bq (aG J hg) hI)<|bX J J (fun hg=>iP (aG J hg) (fun hb=>(aG J (oa hg hb))))<|zo J (lH J J)<|aY J<|al<|aj ?_;cases so h;exact aB J J

theorem Uj(n:aw){R:Bool}(h:oX n=some R):bh be 54 [tD aA n] (gD R):=by
 refine bh.of Tryz.func54 J J J fun w0 S0=>an<|vQ (ht J) J fun b=>zo J (ei)<|al<|ae<|an<|zo J (fi 0 eh J J J)<|zo J (bl br J J cj (.head _) (ht J))<|al<|ap<|an<|zo J (eQ J)<|aY J<|al<|cz h J (fun h=>?_) (fun h=>?_)
 ·refine ah<|zo J (fi 0 eh J J J)<|aE br J pF J (ht J) hI<|aC<|af<|ai<|an<|zo rfl (bl db rfl rfl bO (.head _) (ht rfl))<|bM h fun r q_r h=>zo J (aH LD (Ca _ q_r) ⟨(ht J),bm⟩)<|aY J<|al<|aj<|aX ?_;cases so h;exact aB J J
 ·refine c0 (Z:=fun x=>m8 n x=some R) (Of:=fun x=>[bx aA 50 b n]) (Gf:=fun x=>[(1,tV (aN b 0)),(8,gD x)]) (fun x h=>?_) (fun K=>?_)
  ·skip
   refine cz h J (fun h=>?_) (fun h=>?_)
   ·refine ah<|zo J (fi 0 eh J J J)<|aE br J pF J (ht J) hI<|aC<|af<|ai<|an<|zo rfl (bl db rfl rfl bO (.head _) (ht rfl))<|bM h fun r1 q_r1 h=>zo J (aH LD (Ca _ q_r1) ⟨(ht J),bm⟩)<|aY J<|al<|aj<|aX ?_;cases so h;exact aB J J
   ·refine aO<|af<|ai<|an<|zo rfl (bl db rfl rfl bO (.head _) (ht rfl))<|bM h fun r2 q_r2 h=>zo J (aH LD (Ca _ q_r2) ⟨(ht J),bm⟩)<|aY J<|al<|aj<|aX ?_;cases so h;exact aB J J
  ·skip
   refine an<|zo J (eQ J)<|aY J<|al<|cz h J (fun h=>?_) (fun h=>?_)
   ·refine aO ?_;exact bz (K (n.Op==(10:Int)) h) (aQ J)
   ·refine ah<|zo J (eQ J)<|aY J<|aC ?_;exact bz (K (n.Op==(11:Int)) h) (aQ J)

theorem Ui(n:aw){R:(List Int)×Bool}(h:tR n=some R):bh be 55 [tD aA n] (tT [ji R.1,gD R.2]):=by
 refine bh.of Tryz.func55 J J J fun w0 S0=>an<|zo J (lK J)<|zo J (aP (show aL _ _ _ pD from lJ))<|zo J (ei)<|al<|an<|zo J (bw kj d8 J J)<|zo J (bj br J J)<|zo J (cS (ht J) hI)<|ax J<|bo J J (fun hg=>bw kj d8 J J)<|bo J J (fun hg=>aF br J J (aG J hg))<|bo J J (fun hg=>eg (aG J hg) hI)<|zo J (hZ J J)<|ax J<|bo J J (fun hg=>bw jV d7 J J)<|bo J J (fun hg=>aF bV J J (aG J hg))<|bo J J (fun hg=>bg cZ (aG J hg))<|bo J J (fun hg=>cS (aG J hg) hI)<|zo J (hZ J J) ?_;refine ax J<|bo J J (fun hg=>bw jV d7 J J)<|bo J J (fun hg=>aF bV J J (aG J hg))<|bo J J (fun hg=>bg cZ (aG J hg))<|bo J J (fun hg=>fM (aG J hg) hI)<|zo J (hZ J J)<|aY J<|al<|ae<|an<|zo J (bw jV d7 J J)<|zo J (bj bV J J)<|zo J (fU cZ J)<|zo J (bk hI)<|al<|ap<|aT (k:=28) J fun hN=>bE ?_;refine aJ (jY (Z:=fun ls i ok=>(n.Kinds.drop i=ls)∧mF n ls ok=some R) (Of:=fun _ i ok=>[]) (Gf:=fun _ i ok=>[(1,bF aA n),(4,gD ok),(28,ji n.Kinds),(29,gA n.Kinds),(30,bY (i:Int))]) (fun i ok h=>?_) (fun e tl ih i ok h=>?_) n.Kinds 0 ((((decide ((0:Int)≤n.Table))&&(decide (n.Table<(30:Int))))&&(decide ((1:Int)≤(n.Kinds.length:Int))))&&(decide ((n.Kinds.length:Int)≤(16:Int)))) ⟨J,h⟩) (aQ J)
 ·obtain⟨hx,h⟩:=h
  refine av<|an<|zo J (eu J J)<|al<|ae<|bu (ht J) (dh hx)<|bf ?_;refine ac (ac (aI ?_));refine ai<|an<|zo rfl (bw jV d7 rfl rfl)<|zo rfl (bj bV rfl rfl)<|ax rfl<|aY rfl<|aY rfl<|al<|aj ?_;cases so h;exact cy J J J
 ·obtain⟨hx,h⟩:=h
  refine av<|an<|zo J (eu J J)<|al<|ae<|bt (ht J) (dg hx)<|dF<|ae<|ap<|an<|zo J (gM cZ br J J J (dl hx))<|zo J (bj br J J)<|aY J<|al<|ah<|ax J<|ax J<|bo J J (fun hg=>cq J)<|bo J J (fun hg=>cS (aG J hg) hI) ?_;refine zo J (hZ J J)<|ax J<|bo J J (fun hg=>cq J)<|bo J J (fun hg=>fM (aG J hg) hI)<|zo J (hZ J J)<|aY J<|aC<|af<|ai<|ah<|zo rfl (je (cx hx hN) rfl)<|ax rfl<|aC ?_;exact aM (aJ (ih (i+1) ((ok&&(decide ((0:Int)≤e)))&&(decide (e≤(4:Int)))) ⟨cw hx,h⟩) (aQ J))

theorem Uf(root:bD)(l:(List bp)){R:bp}(h:vx root l=some R):bh be 64 [tD aV root,eV (bn) l] (tD bn R):=by
 refine bh.of Tryz.func64 J J J fun w0 S0=>an<|vQ (ht J) J fun b=>aZ (r:=bn) (x:=se) fG (fun _=>qe _) J fun b1=>al<|an<|cm true aV 149<|aZ (r:=gG) (x:=gI se (aD none 0 (I0.length))) fG uO J fun b2=>al<|an<|zo J (fi 1 nZ J J J)<|em<|aE br J vu J (ht J) hI<|zo J (fi 2 ni J J J)<|aE br J vt J (ht J) hI<|al<|ae<|ae ?_;refine ah<|ax J<|zo J (fU rD J)<|zo J (bk hI)<|al<|ap<|aT (k:=13) J fun hN=>bE<|ka<|ka<|fE<|fE ?_;refine aJ (tA (Z:=fun ls i root1 out l1 c=>(l.drop i=ls)∧mi ls i root1 out=some R) (Of:=fun _ i root1 out l1 c=>[bx aV 149 b root1,bx bn 45 b1 se,bx gG 45 b2 (gI out (aD l1 c out.Nodes.length)),jx aV 149 l1 c out.Nodes]) (Gf:=fun _ i root1 out l1 c=>[(2,tV (aN b 0)),(4,tV (aN b1 0)),(5,tV (aN b2 0)),(13,eV (bn) l),(14,gA l),(15,bY (i:Int))]) (fun i root1 out l1 c h=>?_) (fun e tl ih i root1 out l1 c h=>?_) l 0 (bD.mk root.Tag uQ uQ root.Col root.Value) ({se with Nodes:=I0}:bp) none 0 ⟨J,h⟩) (aQ J)
 ·obtain⟨hx,h⟩:=h
  refine av<|an<|zo J (eu J J)<|al<|ae<|bu (ht J) (dh hx)<|bf ?_;refine ac (ac (aI ?_));refine ai<|an<|zo rfl (fi 0 d3 rfl rfl rfl)<|zo rfl (j8 jZ mb (.tail _ (.tail _ (.head _))) (.tail _ (.tail _ (.tail _ (.head _)))) rfl (ht rfl))<|zo rfl (bl dk rfl rfl bO (.head _) (ht rfl))<|zo rfl (ba (r:=aV) (ys:=[root1]) (xs:=[.tmp 68]) pi dk J J J J J ⟨(ht J),bm⟩)<|em<|bM h fun l2 q_l2 h=>pO dk J J J J pi J J (ht J) (ht J) q_l2 fun l3 c1=>zo J (fi 0 d3 J J J)<|em<|dP jZ J (sl _ _ _) J (ht J) (Bg (D8 (ht J)))<|al<|an<|cg<|zo J (nd (q:=bn) (y:=({out with Nodes:=l2}:bp)) fG J J J J (.tail _ (.head _)) (fun _ _ _ ho h=>tt (jl ho (.head _)) h) (ht J))<|em<|aE fG J ay J (ht J) (ht J)<|aW 4 J<|al ?_;refine aj<|aX<|aX<|aX ?_;cases so h;exact gz J fG J J J
 ·obtain⟨hx,h⟩:=h
  refine av<|an<|zo J (eu J J)<|al<|ae<|bt (ht J) (dg hx)<|dF<|ae<|ap<|an<|ax J<|zo J (gM rD fG J J J (dl hx))<|zo J (bj fG J J)<|aZ (r:=bn) (x:=se) fG (fun _=>qe _) J fun b3=>aY J<|aE fG J ay J (ht J) (ht J)<|aW 7 J<|al<|ae ?_;refine ah<|zo J (fi 0 d3 J J J)<|zo J (j8 jZ mb (.tail _ (.tail _ (.head _))) (.tail _ (.tail _ (.tail _ (.head _)))) J (ht J))<|zo J (bg pi (su (ht J)))<|aY J<|al<|ae<|an<|zo J (bw d3 cU J J)<|zo J (bj jZ J J)<|zo J (fU pi J)<|zo J (bk hI)<|al<|ap<|aT (k:=24) J fun hN1=>bE ?_;refine aJ (me (Z:=fun ls1 i1 out1 l4 c2=>(e.Nodes.drop i1=ls1)∧nF (mi tl) i root1 out ls1 out1=some R) (Of:=fun _ i1 out1 l4 c2=>[bx aV 149 b root1,bx bn 45 b1 se,bx gG 45 b2 (gI out1 (aD l4 c2 out1.Nodes.length)),jx aV 149 l4 c2 out1.Nodes]) (Gf:=fun _ i1 out1 l4 c2=>[(2,tV (aN b 0)),(4,tV (aN b1 0)),(5,tV (aN b2 0)),(6,bY (i:Int)),(8,gA out.Nodes),(13,eV (bn) l),(14,gA l),(15,bY (i:Int)),(24,eV (aV) e.Nodes),(25,gA e.Nodes),(26,bY (i1:Int))]) (fun i1 out1 l4 c2 h=>?_) (fun e1 tl1 ih1 i1 out1 l4 c2 h=>?_) e.Nodes 0 out l1 c ⟨J,h⟩) (aQ J)
  ·obtain⟨hx1,h⟩:=h
   refine av<|an<|zo J (eu J J)<|al<|ae<|bu (ht J) (dh hx1)<|bf ?_;refine ac (ac (aI ?_));refine ai<|an<|ax rfl<|zo rfl (eQ rfl)<|al<|cz h rfl (fun h=>?_) (fun h=>?_)
   ·refine ah<|zo J (fi 0 d3 J J J)<|zo J (j8 jZ mb (.tail _ (.tail _ (.head _))) (.tail _ (.tail _ (.tail _ (.head _)))) J (ht J))<|zo J (bg pi (su (ht J)))<|zo J (dn (ht J) hI)<|zo J (fi 1 nZ J J J)<|aE br J vu J (ht J) (ht J)<|aC<|af<|ai<|ah<|zo rfl (je (cx hx hN) rfl)<|ax rfl<|aC ?_;exact aM (aJ (ih (i+1) (bD.mk root1.Tag (IntKind.i64.wrap ((out1.Nodes.length:Int)-(1:Int))) root1.R root1.Col root1.Value) out1 l4 c2 ⟨cw hx,h⟩) (aQ J))
   ·refine ah<|zo J (fi 0 d3 J J J)<|zo J (j8 jZ mb (.tail _ (.tail _ (.head _))) (.tail _ (.tail _ (.tail _ (.head _)))) J (ht J))<|zo J (bg pi (su (ht J)))<|zo J (dn (ht J) hI)<|zo J (fi 2 ni J J J)<|aE br J vt J (ht J) (ht J)<|aC<|af<|ai<|ah<|zo rfl (je (cx hx hN) rfl)<|ax rfl<|aC ?_;exact aM (aJ (ih (i+1) (bD.mk root1.Tag root1.L (IntKind.i64.wrap ((out1.Nodes.length:Int)-(1:Int))) root1.Col root1.Value) out1 l4 c2 ⟨cw hx,h⟩) (aQ J))
  ·obtain⟨hx1,h⟩:=h
   refine av<|an<|zo J (eu J J)<|al<|ae<|bt (ht J) (dg hx1)<|dF<|ae<|ap<|an<|zo J (gM pi dk J J J (dl hx1))<|zo J (bj dk J J)<|aZ (r:=aV) (x:=D4) dk (fun _=>kX _) J fun b4=>aE dk J ay J (ht J) (ht J)<|al ?_;refine c0 (Z:=fun n=>ux out (nF (mi tl) i root1 out tl1) out1 n=some R) (Of:=fun n=>[bx aV 149 b root1,bx bn 45 b1 se,bx aV 149 b4 n,bx gG 45 b2 (gI out1 (aD l4 c2 out1.Nodes.length)),jx aV 149 l4 c2 out1.Nodes]) (Gf:=fun n=>[(2,tV (aN b 0)),(4,tV (aN b1 0)),(5,tV (aN b2 0)),(6,bY (i:Int)),(8,gA out.Nodes),(10,tV (aN b4 0)),(13,eV (bn) l),(14,gA l),(15,bY (i:Int)),(24,eV (aV) e.Nodes),(25,gA e.Nodes),(26,bY (i1:Int))]) (fun n h=>?_) (fun K=>?_)
   ·skip
    refine c0 (Z:=fun n1=>uw (nF (mi tl) i root1 out tl1) out1 n1=some R) (Of:=fun n1=>[bx aV 149 b root1,bx bn 45 b1 se,bx aV 149 b4 n1,bx gG 45 b2 (gI out1 (aD l4 c2 out1.Nodes.length)),jx aV 149 l4 c2 out1.Nodes]) (Gf:=fun n1=>[(2,tV (aN b 0)),(4,tV (aN b1 0)),(5,tV (aN b2 0)),(6,bY (i:Int)),(8,gA out.Nodes),(10,tV (aN b4 0)),(13,eV (bn) l),(14,gA l),(15,bY (i:Int)),(24,eV (aV) e.Nodes),(25,gA e.Nodes),(26,bY (i1:Int))]) (fun n1 h=>?_) (fun K1=>?_)
    ·skip
     refine ah<|zo J (fi 0 d3 J J J)<|zo J (j8 jZ mb (.tail _ (.tail _ (.tail _ (.head _)))) (.tail _ (.tail _ (.tail _ (.tail _ (.head _))))) J (ht J))<|zo J (bl dk J J bO (.tail _ (.tail _ (.head _))) (ht J))<|zo J (ba (r:=aV) (ys:=[n1]) (xs:=[.tmp 48]) pi dk J J J J J ⟨(ht J),bm⟩)<|AK<|bM h fun l5 q_l5 h=>pO dk J J J J pi J J (ht J) (ht J) q_l5 fun l6 c3=>zo J (fi 0 d3 J J J)<|AK<|dP jZ J (sl _ _ _) J (ht J) (Bg (D8 (ht J)))<|aC<|af<|ai<|ah<|zo rfl (je (cx hx1 hN1) rfl)<|ax rfl<|aC<|gZ<|aX<|aU<|aU<|bS<|bS ?_;exact aM (aJ (ih1 (i1+1) ({out1 with Nodes:=l5}:bp) l6 c3 ⟨cw hx1,h⟩) (aQ J))
    ·skip
     refine an<|zo J (fi 2 ni J J J)<|zo J (bl br J J ly (.tail _ (.tail _ (.head _))) (ht J))<|zo J (cS (ht J) hI)<|al<|cz h J (fun h=>?_) (fun h=>?_)
     ·refine ah<|zo J (fi 2 ni J J J)<|zo J (bl br J J ly (.tail _ (.tail _ (.head _))) (ht J))<|ax J<|zo J (fm (ht J) (ht J))<|zo J (fi 2 ni J J J)<|fD<|aE br J vt J (ht J) (ht J)<|aC<|gZ<|gZ<|bc<|gZ<|gZ ?_;exact bz (K1 (bD.mk n.Tag n.L (IntKind.i64.wrap (n.R+(out.Nodes.length:Int))) n.Col n.Value) h) (aQ J)
     ·refine aO ?_;exact bz (K1 n h) (aQ J)
   ·skip
    refine an<|zo J (fi 1 nZ J J J)<|zo J (bl br J J mq (.head _) (ht J))<|zo J (cS (ht J) hI)<|al<|cz h J (fun h=>?_) (fun h=>?_)
    ·refine ah<|zo J (fi 1 nZ J J J)<|zo J (bl br J J mq (.head _) (ht J))<|ax J<|zo J (fm (ht J) (ht J))<|zo J (fi 1 nZ J J J)<|aE br J vu J (ht J) (ht J)<|aC<|gZ<|gZ<|bc<|gZ<|gZ ?_;exact bz (K (bD.mk e1.Tag (IntKind.i64.wrap (e1.L+(out.Nodes.length:Int))) e1.R e1.Col e1.Value) h) (aQ J)
    ·refine aO<|gZ<|gZ<|bc<|gZ<|gZ ?_;exact bz (K e1 h) (aQ J)

theorem OS(kinds:(List Int)){R:Bool}(h:s4 kinds=some R):bh be 99 [ji kinds] (gD R):=by
 refine bh.of Tryz.func99 J J J fun w0 S0=>an<|zo J (ei)<|al<|ae<|an<|ax J<|zo J (fU cZ J)<|zo J (bk hI)<|al<|ap<|aT (k:=5) J fun hN=>bE ?_;refine aJ (dB (Z:=fun ls i=>(kinds.drop i=ls)∧rn ls=some R) (Of:=fun _ i=>[]) (Gf:=fun _ i=>[(5,ji kinds),(6,gA kinds),(7,bY (i:Int))]) (fun i h=>?_) (fun e tl ih i h=>?_) kinds 0 ⟨J,h⟩) (aQ J)
 ·obtain⟨hx,h⟩:=h
  refine av<|an<|zo J (eu J J)<|al<|ae<|bu (ht J) (dh hx)<|bf ?_;refine ac (ac (aI ?_));refine ai<|an<|zo rfl (ei)<|al<|aj ?_;cases so h;exact aB J J
 ·obtain⟨hx,h⟩:=h
  refine av<|an<|zo J (eu J J)<|al<|ae<|bt (ht J) (dg hx)<|dF<|ae<|ap<|an<|zo J (gM cZ br J J J (dl hx))<|zo J (bj br J J)<|aY J<|al<|an<|ax J<|zo J (eQ J)<|aC ?_;refine ai<|cz h rfl (fun h=>?_) (fun h=>?_)
  ·refine an<|zo J (ei)<|al<|aj ?_;refine am (aa (aa (am (aa ?_))));cases so h;exact aB J J
  ·refine aO<|af<|ai<|ah<|zo rfl (je (cx hx hN) rfl)<|ax rfl<|aC ?_;exact aM (aJ (ih (i+1) ⟨cw hx,h⟩) (aQ J))

theorem O4: ∀(fu:Nat) (l:eC) (at1:Int) {R:Int} (h:dV fu l at1=some R),bh be 167 [tD qk l,bY at1] (bY R):=by
 intro fu
 induction fu with
 |zero=>intro l at1 R h;exact(nn h).elim
 |succ fu ih=>
  intro l at1 R h
  refine bh.of Tryz.func167 J J J fun w0 S0=>an<|zo J (lK J)<|zo J (dv)<|al<|ae<|an<|ax J<|zo J (eg (ht J) hI)<|ax J<|bX J J (fun hg=>cq J)<|bX J J (fun hg=>bw o8 tn J J)<|bX J J (fun hg=>aF n8 J J (aG J hg))<|bX J J (fun hg=>bg ib (aG J hg))<|bX J J (fun hg=>cS (aG J hg) (aG J hg))<|zo J (lH J J)<|al<|cz h J (fun h=>?_) (fun h=>?_)
  ·refine an<|zo J (dv)<|al<|aj<|aa ?_;cases so h;exact aB J J
  ·refine dF<|an<|zo J (bw o8 tn J J)<|zo J (bj n8 J J)<|ax J<|bM h fun e q_e h=>zo J (gM ib db J J J q_e)<|zo J (bj db J J)<|aZ (r:=aA) (x:=yF) db (fun _=>ev _) J fun b=>aE db J ay J (ht J) (ht J)<|aW 5 J<|al<|ae<|an<|zo J (bw eh cj J J)<|zo J (bj br J J)<|bM h fun r q_r h=>zo J (aH S4 (Lm _ q_r) ⟨(ht J),bm⟩)<|al ?_;refine ap<|an<|zo J (eQ J)<|aY J<|al<|cz h J (fun h=>?_) (fun h=>?_)
   ·refine an<|zo J (bw iS dE J J)<|zo J (bj br J J)<|zo J (eQ J)<|ax J<|bo J J (fun hg=>bw kI ew J J)<|bo J J (fun hg=>aF br J J (aG J hg))<|bo J J (fun hg=>bq (aG J hg) hI)<|zo J (hZ J J)<|al<|cz h J (fun h=>?_) (fun h=>?_)
    ·refine an<|zo J (dv)<|al<|aj ?_;refine am (aa ?_);cases so h;exact aB J J
    ·refine aO<|af<|ai<|an<|zo rfl (dv)<|al<|aj ?_;cases so h;exact aB J J
   ·refine an<|zo J (eQ J)<|aY J<|al<|cz h J (fun h=>?_) (fun h=>?_)
    ·refine an<|zo J (bw iS dE J J)<|zo J (bj br J J)<|ax J<|zo J (dn (ht J) hI)<|zo J (bq (ht J) (ht J))<|ax J<|bo J J (fun hg=>bw kI ew J J)<|bo J J (fun hg=>aF br J J (aG J hg))<|bo J J (fun hg=>bq (aG J hg) hI)<|zo J (hZ J J)<|al<|cz h J (fun h=>?_) (fun h=>?_)
     ·refine an<|zo J (bj AZ J J)<|zo J (bw iS dE J J)<|zo J (bj br J J)<|bM h fun r1 q_r1 h=>zo J (aH Lz (ih _ _ q_r1) ⟨(ht J),(ht J),bm⟩)<|aY J<|al<|an<|ax J<|zo J (dZ (ht J) hI)<|al<|cz h J (fun h=>?_) (fun h=>?_)
      ·refine an<|ax J<|zo J (fm (ht J) hI)<|aY J<|al<|aj ?_;refine am (aa ?_);cases so h;exact aB J J
      ·refine aO<|af<|ai<|an<|zo rfl (dv)<|al<|aj ?_;cases so h;exact aB J J
     ·refine aO<|af<|ai<|an<|zo rfl (dv)<|al<|aj ?_;cases so h;exact aB J J
    ·refine an<|zo J (eQ J)<|aY J<|al<|cz h J (fun h=>?_) (fun h=>?_)
     ·refine an<|zo J (bw kI ew J J)<|zo J (bj br J J)<|ax J<|zo J (dn (ht J) hI)<|zo J (bq (ht J) (ht J))<|al<|cz h J (fun h=>?_) (fun h=>?_)
      ·refine an<|zo J (bj AZ J J)<|zo J (bw kI ew J J)<|zo J (bj br J J)<|bM h fun r2 q_r2 h=>zo J (aH Lz (ih _ _ q_r2) ⟨(ht J),(ht J),bm⟩)<|aY J<|al<|an<|ax J<|zo J (dZ (ht J) hI)<|ax J<|bo J J (fun hg=>bw iS dE J J)<|bo J J (fun hg=>aF br J J (aG J hg))<|bo J J (fun hg=>bw kI ew J J)<|bo J J (fun hg=>aF br J J (aG J hg))<|bo J J (fun hg=>cq J)<|bo J J (fun hg=>dn (aG J hg) (aG J hg))<|bo J J (fun hg=>bq (aG J hg) (aG J hg))<|zo J (hZ J J)<|aC ?_;refine ai<|cz h rfl (fun h=>?_) (fun h=>?_)
       ·refine an<|zo J (bj AZ J J)<|zo J (bw iS dE J J)<|zo J (bj br J J)<|bM h fun r3 q_r3 h=>zo J (aH Lz (ih _ _ q_r3) ⟨(ht J),(ht J),bm⟩)<|aY J<|al<|an<|ax J<|zo J (dZ (ht J) hI)<|al<|cz h J (fun h=>?_) (fun h=>?_)
        ·refine an<|ax J<|ax J<|zo J (fm (ht J) (ht J))<|zo J (fm (ht J) hI)<|aY J<|al<|aj ?_;refine am (aa ?_);cases so h;exact aB J J
        ·refine aO<|af<|ai<|an<|zo rfl (dv)<|al<|aj ?_;cases so h;exact aB J J
       ·refine aO<|af<|ai<|an<|zo rfl (dv)<|al<|aj ?_;cases so h;exact aB J J
      ·refine aO<|af<|ai<|an<|zo rfl (dv)<|al<|aj ?_;cases so h;exact aB J J
     ·refine aO<|af<|ai<|an<|zo rfl (dv)<|al<|aj ?_;cases so h;exact aB J J
theorem Ru(l:eC)(at1:Int){R:Int}(h:ym l at1=some R):bh be 167 [tD qk l,bY at1] (bY R):=O4 gK l at1 h

theorem QM(tag:Int){R:Int}(h:wC tag=some R):bh be 299 [bY tag] (bY R):=by
 refine bh.of Tryz.func299 J J J fun w0 S0=>an<|zo J (dv)<|al<|ae<|ap<|an<|ax J<|zo J (eg (ht J) hI)<|ax J<|bX J J (fun hg=>cq J)<|bX J J (fun hg=>dZ (aG J hg) hI)<|zo J (lH J J)<|aY J<|al<|cz h J (fun h=>?_) (fun h=>?_)
 ·refine an<|zo J (dv)<|al<|aj ?_;refine am (aa ?_);cases so h;exact aB J J
 ·refine an<|ax J<|zo J (fM (ht J) hI)<|aY J<|al<|cz h J (fun h=>?_) (fun h=>?_)
  ·refine an<|zo J (dv)<|al<|aj ?_;refine am (aa ?_);cases so h;exact aB J J
  ·refine an<|ax J<|zo J (fM (ht J) hI)<|aY J<|al<|cz h J (fun h=>?_) (fun h=>?_)
   ·refine an<|zo J (dv)<|al<|aj ?_;refine am (aa ?_);cases so h;exact aB J J
   ·refine aO<|af<|ai<|an<|zo rfl (dv)<|al<|aj ?_;cases so h;exact aB J J

theorem QO(tag:Int){R:Int}(h:tY tag=some R):bh be 291 [bY tag] (bY R):=by
 refine bh.of Tryz.func291 J J J fun w0 S0=>an<|zo J (dv)<|al<|ae<|an<|ax J<|zo J (eQ J)<|ax J<|bX J J (fun hg=>cq J)<|bX J J (fun hg=>cS (aG J hg) hI)<|bX J J (fun hg=>bk (aG J hg))<|dm J J J J (fun hg=>cq J)<|dm J J J J (fun hg=>fM (aG J hg) hI)<|bX J J (fun hg=>iP (aG J hg) (fun hb=>(aG J (oa hg hb))))<|zo J (lH J J)<|al<|cz h J (fun h=>?_) (fun h=>?_)
 ·refine an<|zo J (dv)<|al<|aj<|aa ?_;cases so h;exact aB J J
 ·refine dF<|an<|ax J<|bM h fun r q_r h=>zo J (aH Wh (QM _ q_r) ⟨(ht J),bm⟩)<|aY J<|al<|aj ?_;cases so h;exact aB J J

theorem QK(v:dQ){R:Bool}(h:oB v=some R):bh be 304 [tD eJ v] (gD R):=by
 refine bh.of Tryz.func304 J J J fun w0 S0=>an<|zo J (lK J)<|zo J (ei)<|al<|ae<|an<|zo J (bw uD oO J J)<|zo J (bj br J J)<|al<|ap<|an<|zo J (eQ J)<|aY J<|al<|cz h J (fun h=>?_) (fun h=>?_)
 ·refine an<|zo J (bj uS J J)<|zo J (cI (y:=xx) uS M2 rE (J))<|zo J (zl Nb (ht J) (ht J))<|aY J<|al<|aj ?_;refine am (aa ?_);cases so h;exact aB J J
 ·refine an<|zo J (eQ J)<|aY J<|al<|cz h J (fun h=>?_) (fun h=>?_)
  ·refine an<|zo J (bw Gr vG J J)<|zo J (bj NW J J)<|zo J (eQ J)<|ax J<|bo J J (fun hg=>bw yy oN J J)<|bo J J (fun hg=>aF z6 J J (aG J hg))<|bo J J (fun hg=>qE (aG J hg) hS)<|zo J (hZ J J)<|ax J<|bo J J (fun hg=>bw yz rf J J)<|bo J J (fun hg=>aF SG J J (aG J hg))<|bo J J (fun hg=>bq (aG J hg) hI)<|bo J J (fun hg=>bk (aG J hg))<|ck J J J J (fun hg=>bw yz rf J J)<|ck J J J J (fun hg=>aF SG J J (aG J hg))<|ck J J J J (fun hg=>bq (aG J hg) hI)<|bo J J (fun hg=>j7 (aG J hg) (fun hb=>(aG J (oa hg (mW hb)))))<|zo J (hZ J J)<|aY J<|al<|aj ?_;refine am (aa ?_);cases so h;exact aB J J
  ·refine an<|zo J (eQ J)<|aY J<|al<|cz h J (fun h=>?_) (fun h=>?_)
   ·refine an<|zo J (bw Gr vG J J)<|zo J (bj NW J J)<|zo J (eQ J)<|ax J<|bo J J (fun hg=>bw yy oN J J)<|bo J J (fun hg=>aF z6 J J (aG J hg))<|bo J J (fun hg=>qE (aG J hg) hS)<|zo J (hZ J J)<|aY J<|al<|aj ?_;refine am (aa ?_);cases so h;exact aB J J
   ·refine an<|zo J (eQ J)<|aY J<|al<|cz h J (fun h=>?_) (fun h=>?_)
    ·refine an<|zo J (bw yz rf J J)<|zo J (bj SG J J)<|zo J (eQ J)<|ax J<|bo J J (fun hg=>bw Gr vG J J)<|bo J J (fun hg=>aF NW J J (aG J hg))<|bo J J (fun hg=>bq (aG J hg) hI)<|zo J (hZ J J)<|ax J<|bo J J (fun hg=>bw yy oN J J)<|bo J J (fun hg=>aF z6 J J (aG J hg))<|bo J J (fun hg=>ua kq (aG J hg))<|bo J J (fun hg=>fM (aG J hg) hI)<|zo J (hZ J J)<|aY J<|al<|aj ?_;refine am (aa ?_);cases so h;exact aB J J
    ·refine aO<|af<|ai<|an<|zo rfl (bw uD oO rfl rfl)<|zo rfl (bj br rfl rfl)<|zo rfl (eQ rfl)<|ax rfl<|bo rfl rfl (fun hg=>bw yy oN J J)<|bo J J (fun hg=>aF z6 J J (aG J hg))<|bo J J (fun hg=>qE (aG J hg) hS)<|zo J (hZ J J)<|aY J<|al<|aj ?_;cases so h;exact aB J J

end Go.Proofs.YtmogpgcfognefaaGreatDoor

