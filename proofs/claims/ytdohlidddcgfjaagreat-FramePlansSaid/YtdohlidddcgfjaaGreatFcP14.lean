/- cE of this claim: P14. -/
import Derived.Test.YtdohlidddcgfjaaGreatFcT
import Derived.Test.YtdohlidddcgfjaaGreatFcP13
set_option linter.all false
namespace Go.Proofs.YtdohlidddcgfjaaGreat
open Go
set_option maxRecDepth 100000

def UT op{R}(h:vd op=some R):cX bd 131 [bH op] (bH R):=by
 refine dK Tryz.func131 J<|d<|ca<|bu<|aS<|Q J<|bu<|ak<|d<|bp J<|aN J<|fy h J (fun h=>?_) (fun h=>?_)
 ·exact d<|eg<|cx<|so h▸aA J J
 ·refine d5 (aa:=fun x=>rM op x=some R) (Of:=fun x=>[]) (Gf:=fun x=>[(0,bH op),(6,fM x)]) (fun x h=>?_) (fun h2=>?_)
  ·skip
   refine fy h J (fun h=>?_) (fun h=>?_)
   ·exact d<|eg<|cx<|so h▸aA J J
   ·exact bc<|al<|au<|ax J<|eE h VZ (NH _) (cy J) fun r h=>bf J<|so h▸aA J J
  ·skip
   refine d<|bp J<|aN J<|fy h J (fun h=>?_) (fun h=>?_)
   ·refine bc ?_;exact bE (h2 (op==(10:Int)) h) (aX J)
   ·refine aj<|bp J<|d6 J<|aJ ?_;exact bE (h2 (op==(11:Int)) h) (aX J)

def TZ: ∀(fu:Nat) (l:(List tV)) (at1:Int) {R:Int} (h:gH fu l at1=some R),cX bd 91 [em (aM) l,bH at1] (bH R):=by
 intro fu
 induction fu with
 |zero=>intro l at1 R h;exact(nn h).elim
 |succ fu ih=>
  intro l at1 R h
  refine dK Tryz.func91 J<|d<|ca<|bu<|aS<|Q J<|s (fH (D J) hI)<|Q J<|aD J (bX J)<|aD J (bX J)<|aD J (gp j4 J)<|aD J (fun Y=>dB (bl J Y) (bl J Y))<|dG J<|bW h J (fun h=>?_) (fun h=>?_)
  ·exact d<|eg<|af<|so h▸aA J J
  ·refine fN<|ax J<|Q J<|bR h fun e q_e h=>dg j4 dA J q_e<|bz dA ie J fun b=>bO dA aB J<|bj 5 J<|bu<|aS<|aQ ft cB bB J<|eE h abB (UT _) (cy J) fun r h=>bu<|ak ?_;refine d<|bp J<|aN J<|fy h J (fun h=>?_) (fun h=>?_)
   ·refine d<|aQ jw fS bB J<|bp J<|Q J<|ae J (bv kz hE J J)<|ae J (bq bB J J)<|ae J (gQ J)<|cm J<|bW h J (fun h=>?_) (fun h=>?_)
    ·exact d<|eg<|cx<|so h▸aA J J
    ·exact bc<|al<|au<|d<|eg<|so h▸aA J J
   ·refine d<|bp J<|aN J<|fy h J (fun h=>?_) (fun h=>?_)
    ·refine ax J<|Q J<|s (dP (D J) hI)<|eE h Se (ih _ _) (cy J) fun r1 h=>aN J<|d<|aQ jw fS bB J<|Q J<|s (dP (D J) hI)<|s (di (D J) (D J))<|Q J<|ae J (bv kz hE J J)<|ae J (bq bB J J)<|ae J (gQ J)<|cm J<|Q J<|ae J (bX J) ?_;refine ae J (fun Y=>dD (bl J Y) hI)<|cm J<|bW h J (fun h=>?_) (fun h=>?_)
     ·exact ax J<|s (cW (D J) hI)<|bf J<|cx<|so h▸aA J J
     ·exact bc<|al<|au<|d<|eg<|so h▸aA J J
    ·refine d<|bp J<|aN J<|fy h J (fun h=>?_) (fun h=>?_)
     ·refine ax J<|Q J<|s (dP (D J) hI)<|eE h Se (ih _ _) (cy J) fun r2 h=>aN J<|aS<|Q J<|bp J<|Q J<|aD J (bv kz hE J J)<|aD J (bq bB J J)<|aD J (bX J)<|aD J (fun Y=>dP (bl J Y) hI)<|aD J (fun Y=>du (bl J Y) (bl J Y))<|dG J<|Q J<|aD J (bv jw fS J J) ?_;refine aD J (bq bB J J)<|aD J (bX J)<|aD J (fun Y=>dP (bl J Y) hI)<|aD J (bX J)<|aD J (fun Y=>dP (bl J Y) (bl J Y))<|aD J (fun Y=>du (bl J Y) (bl J Y))<|dG J<|bW h J (fun h=>?_) (fun h=>?_)
      ·exact d<|eg<|af<|cx<|so h▸aA J J
      ·refine fN<|ax J<|aQ jw fS bB J<|eE h Se (ih _ _) (cy J) fun r3 h=>aN J<|ax J<|s (dD (D J) hI)<|bW h J (fun h=>?_) (fun h=>?_)
       ·exact ax J<|Q J<|s (cW (D J) (D J))<|s (cW (D J) hI)<|bf J<|cx<|so h▸aA J J
       ·exact bc<|al<|au<|d<|eg<|so h▸aA J J
     ·exact bc<|al<|au<|d<|eg<|so h▸aA J J
def RB l at1{R}(h:ux l at1=some R):cX bd 91 [em (aM) l,bH at1] (bH R):=TZ dk l at1 h

def DC n{R}(h:oJ n=some R):cX bd 132 [tD aM n] (fM R):=by
 refine dK Tryz.func132 J<|d<|dl J<|bm<|bu<|aS<|aQ ft cB bB J<|nP J<|Q J<|ae J (bv p6 ip J J)<|ae J (bq bB J J)<|ae J (se J)<|ae J (nQ J)<|cF J J J J (fun Y=>oq jI dW J J)<|cF J J J J (fun Y=>ej cu J J (bl J Y))<|cF J J J J (fun Y=>eS df (bl J Y))<|cF J J J J (fun Y=>dD (bl J Y) hI)<|ae J (fun Y=>kL (bl J Y) (fun H=>(bl J (sd Y (sb H)))))<|cm J ?_;refine bW h J (fun h=>?_) (fun h=>?_)
 ·exact d<|bm<|bM<|af<|so h▸aA J J
 ·refine fN<|aS<|aQ ft cB bB J<|nP J<|Q J<|ae J (bv xa pX J J)<|ae J (bq zF J J)<|cm J<|Q J<|aD J (bv ft cB J J)<|aD J (bq bB J J)<|aD J (se J)<|aD J (nQ J)<|de J J J J (fun Y=>oq ft cB J J)<|de J J J J (fun Y=>ej bB J J (bl J Y))<|de J J J J (fun Y=>du (bl J Y) hI)<|aD J (fun Y=>jm (bl J Y) (fun H=>(bl J (sd Y H))))<|aD J (nQ J)<|de J J J J (fun Y=>oq pZ iQ J J)<|de J J J J (fun Y=>fj f7 J dw J (bl J Y)) ?_;refine de J J J J (fun Y=>ej nM J J (bl J Y))<|de J J J J (fun Y=>eS j5 (bl J Y))<|de J J J J (fun Y=>dD (bl J Y) hI)<|aD J (fun Y=>jm (bl J Y) (fun H=>(bl J (sd Y H))))<|dG J<|bW h J (fun h=>?_) (fun h=>?_)
  ·exact d<|bm<|bM<|af<|so h▸aA J J
  ·refine fN<|aS<|aQ ft cB bB J<|nP J<|Q J<|ae J (bv ju dE J J)<|ae J (bq cu J J)<|ae J (gp df J)<|ae J (fun Y=>dD (bl J Y) hI)<|ae J (nQ J)<|cF J J J J (fun Y=>oq gA cO J J)<|cF J J J J (fun Y=>ej o0 J J (bl J Y))<|cF J J J J (fun Y=>eS lb (bl J Y))<|cF J J J J (fun Y=>dD (bl J Y) hI)<|ae J (fun Y=>kL (bl J Y) (fun H=>(bl J (sd Y (sb H)))))<|cm J<|Q J<|aD J (bv ft cB J J)<|aD J (bq bB J J)<|aD J (se J) ?_;refine aD J (nQ J)<|de J J J J (fun Y=>oq oc io J J)<|de J J J J (fun Y=>ej wH J J (bl J Y))<|de J J J J (fun Y=>eS qD (bl J Y))<|de J J J J (fun Y=>dD (bl J Y) hI)<|aD J (fun Y=>jm (bl J Y) (fun H=>(bl J (sd Y H))))<|dG J<|bW h J (fun h=>?_) (fun h=>?_)
   ·exact d<|bm<|bM<|af<|so h▸aA J J
   ·exact fN<|d<|aQ ft cB bB J<|bp J<|Q J<|aD J (bv jv ep J J)<|aD J (bq ur J J)<|aD J (gp rz J)<|aD J (gQ J)<|aD J (nQ J)<|de J J J J (fun Y=>oq qu jG J J)<|de J J J J (fun Y=>ej bB J J (bl J Y))<|de J J J J (fun Y=>di (bl J Y) hI)<|aD J (fun Y=>jm (bl J Y) (fun H=>(bl J (sd Y H))))<|dG J<|bf J<|so h▸aA J J

def Xg n{R}(h:oH n=some R):cX bd 92 [tD aM n] (fM R):=by
 refine dK Tryz.func92 J<|d<|qV (D J) J fun b=>bm<|bu<|aS<|bh 0 ft J<|s (aL bB J J cB (.head _) (D J))<|bu<|ak<|d<|bp J<|aN J<|fy h J (fun h=>?_) (fun h=>?_)
 ·exact aj<|bh 0 ft J<|ek bB J uv J (D J) hI<|aJ<|al<|au<|d<|s (aL (x:=(tV.mk (1:Int) n.A n.B n.Table n.Kinds n.Left n.Cond n.Keys n.Aggs n.Items n.Order n.Limit)) dA J J bC (.head _) (D J))<|eE h NV (DC _) (cy J) fun r h=>bf J<|aV<|so h▸aA J J
 ·refine d5 (aa:=fun x=>n7 n x=some R) (Of:=fun x=>[bx aM 89 b n]) (Gf:=fun x=>[(1,M (Z b 0)),(8,fM x)]) (fun x h=>?_) (fun h2=>?_)
  ·skip
   refine fy h J (fun h=>?_) (fun h=>?_)
   ·exact aj<|bh 0 ft J<|ek bB J uv J (D J) hI<|aJ<|al<|au<|d<|s (aL (x:=(tV.mk (4:Int) n.A n.B n.Table n.Kinds n.Left n.Cond n.Keys n.Aggs n.Items n.Order n.Limit)) dA J J bC (.head _) (D J))<|eE h NV (DC _) (cy J) fun r1 h=>bf J<|aV<|so h▸aA J J
   ·exact bc<|al<|au<|d<|s (aL dA J J bC (.head _) (D J))<|eE h NV (DC _) (cy J) fun r2 h=>bf J<|aV<|so h▸aA J J
  ·skip
   refine d<|bp J<|aN J<|fy h J (fun h=>?_) (fun h=>?_)
   ·refine bc ?_;exact bE (h2 (n.Op==(10:Int)) h) (aX J)
   ·refine aj<|bp J<|d6 J<|aJ ?_;exact bE (h2 (n.Op==(11:Int)) h) (aX J)

def Xf n{R}(h:vc n=some R):cX bd 93 [tD aM n] (tT [jK R.1,fM R.2]):=by
 refine dK Tryz.func93 J<|d<|dl J<|fO bV<|bm<|bu<|d<|aQ p6 ip bB J<|s (dB (D J) hI)<|Q J<|ae J (bv p6 ip J J)<|ae J (bq bB J J)<|ae J (fun Y=>fH (bl J Y) hI)<|cm J<|Q J<|ae J (bv jI dW J J)<|ae J (bq cu J J)<|ae J (gp df J)<|ae J (fun Y=>dB (bl J Y) hI)<|cm J ?_;refine Q J<|ae J (bv jI dW J J)<|ae J (bq cu J J)<|ae J (gp df J)<|ae J (fun Y=>eY (bl J Y) hI)<|cm J<|aN J<|aS<|aQ jI dW cu J<|bI df J<|s (bT hI)<|bu<|ak<|bo (k:=28) J fun hN=>bA ?_;refine aH (uS (aa:=fun ls i ok=>(n.Kinds.drop i=ls)/\ny n ls ok=some R) (Of:=fun _ i ok=>[]) (Gf:=fun _ i ok=>[(1,ck aM n),(4,fM ok),(28,jK n.Kinds),(29,kE n.Kinds),(30,bH (i:Int))]) (fun i ok h=>?_) (fun e tl ih i ok h=>?_) n.Kinds 0 ((((decide ((0:Int)<=n.Table))&&(decide (n.Table<(30:Int))))&&(decide ((1:Int)<=(n.Kinds.length:Int))))&&(decide ((n.Kinds.length:Int)<=(16:Int)))) ⟨J,h⟩) (aX J)
 ·obtain⟨V,h⟩:=h
  exact ez V J<|au<|d<|aQ jI dW cu J<|Q J<|d6 J<|bf J<|so h▸cg J J J
 ·obtain⟨V,h⟩:=h
  refine ew V J<|aP<|ak<|d<|dg df bB J (dJ V)<|aN J<|aj<|Q J<|Q J<|ae J (bX J)<|ae J (fun Y=>dB (bl J Y) hI) ?_;refine cm J<|Q J<|ae J (bX J)<|ae J (fun Y=>eY (bl J Y) hI)<|cm J<|d6 J<|aJ<|dd V hN J ?_;exact aU (aH (ih (i+1) ((ok&&(decide ((0:Int)<=e)))&&(decide (e<=(4:Int)))) ⟨da V,h⟩) (aX J))

def US kinds{R}(h:wU kinds=some R):cX bd 133 [jK kinds] (fM R):=by
 refine dK Tryz.func133 J<|d<|bm<|bu<|aS<|Q J<|bI df J<|s (bT hI)<|bu<|ak<|bo (k:=5) J fun hN=>bA ?_;refine aH (eU (aa:=fun ls i=>(kinds.drop i=ls)/\sW ls=some R) (Of:=fun _ i=>[]) (Gf:=fun _ i=>[(5,jK kinds),(6,kE kinds),(7,bH (i:Int))]) (fun i h=>?_) (fun e tl ih i h=>?_) kinds 0 ⟨J,h⟩) (aX J)
 ·obtain⟨V,h⟩:=h
  exact ez V J<|au<|d<|bm<|bM<|so h▸aA J J
 ·obtain⟨V,h⟩:=h
  refine ew V J<|aP<|ak<|d<|dg df bB J (dJ V)<|aN J<|ax J<|bp J<|aJ ?_;refine au<|fy h J (fun h=>?_) (fun h=>?_)
  ·exact d<|bm<|bM<|cx<|af<|cx<|so h▸aA J J
  ·refine bc<|dd V hN J ?_;exact aU (aH (ih (i+1) ⟨da V,h⟩) (aX J))

def UR root l{R}(h:wY root l=some R):cX bd 134 [tD bt root,em (bN) l] (tD bN R):=by
 refine dK Tryz.func134 J<|d<|qV (D J) J fun b=>bz gn qO J fun b1=>bu<|d<|ci true bt 160<|bz (r:=oy) (x:=qm my (ay none 0 (([]:List av).length))) gn Og J fun b2=>bu<|d<|bh 1 qv J<|kU<|ek bB J sw J (D J) hI<|bh 2 pq J<|ek bB J sv J (D J) hI<|bu<|aP<|aP ?_;refine aj<|Q J<|bI qD J<|s (bT hI)<|bu<|ak<|bo (k:=13) J fun hN=>bA<|kV<|kV<|gW<|gW ?_;refine aH (yN (aa:=fun ls i root1 out l1 c=>(l.drop i=ls)/\m4 ls i root1 out=some R) (Of:=fun _ i root1 out l1 c=>[bx bt 160 b root1,bx bN 84 b1 my,bx oy 84 b2 (qm out (ay l1 c out.Nodes.length)),tip bt 160 l1 c out.Nodes]) (Gf:=fun _ i root1 out l1 c=>[(2,M (Z b 0)),(4,M (Z b1 0)),(5,M (Z b2 0)),(13,em (bN) l),(14,kE l),(15,bH (i:Int))]) (fun i root1 out l1 c h=>?_) (fun e tl ih i root1 out l1 c h=>?_) l 0 (av.mk root.Tag xD xD root.Col root.Value) ({my with Nodes:=([]:List av)}:aW) none 0 ⟨J,h⟩) (aX J)
 ·obtain⟨V,h⟩:=h
  refine ez V J<|au<|d<|bh 0 f7 J<|s (mE nM tf (.tail _ (.tail _ (.head _))) (.tail _ (.tail _ (.tail _ (.head _)))) J (D J))<|s (aL eo J J bC (.head _) (D J))<|s (aI (r:=bt) (ys:=[root1]) (xs:=[.tmp 68]) j5 eo J J J J J ⟨(D J),aZ⟩)<|kU<|bR h fun l2 q_l2 h=>oo eo J J J J j5 J J (D J) (D J) q_l2 fun l3 c1=>bh 0 f7 J<|kU ?_;exact hU nM J (tB _ _ _) J (D J) (FI (xV (D J)))<|bu<|d<|bY<|s (Al (q:=bN) (y:=({out with Nodes:=l2}:aW)) gn J J J J (.tail _ (.head _)) (fun _ _ _ ho h=>Fh (qk ho (.head _)) h) (D J))<|kU<|bO gn aB J<|bj 4 J<|bM<|aV<|aV<|aV<|so h▸FH J gn J J J
 ·obtain⟨V,h⟩:=h
  refine ew V J<|aP<|ak<|ax J<|dg qD gn J (dJ V)<|bz gn qO J fun b3=>d6 J<|bO gn aB J<|bj 7 J<|bu<|aP ?_;refine aj<|bh 0 f7 J<|s (mE nM tf (.tail _ (.tail _ (.head _))) (.tail _ (.tail _ (.tail _ (.head _)))) J (D J))<|s (eS j5 (mX (D J)))<|aN J<|aS<|aQ f7 dw nM J<|bI j5 J<|s (bT hI)<|bu<|ak<|bo (k:=24) J fun hN1=>bA ?_;refine aH (jz (aa:=fun ls1 i1 out1 l4 c2=>(e.Nodes.drop i1=ls1)/\oK (m4 tl) i root1 out ls1 out1=some R) (Of:=fun _ i1 out1 l4 c2=>[bx bt 160 b root1,bx bN 84 b1 my,bx oy 84 b2 (qm out1 (ay l4 c2 out1.Nodes.length)),tip bt 160 l4 c2 out1.Nodes]) (Gf:=fun _ i1 out1 l4 c2=>[(2,M (Z b 0)),(4,M (Z b1 0)),(5,M (Z b2 0)),(6,bH (i:Int)),(8,kE out.Nodes),(13,em (bN) l),(14,kE l),(15,bH (i:Int)),(24,em (bt) e.Nodes),(25,kE e.Nodes),(26,bH (i1:Int))]) (fun i1 out1 l4 c2 h=>?_) (fun e1 tl1 ih1 i1 out1 l4 c2 h=>?_) e.Nodes 0 out l1 c ⟨J,h⟩) (aX J)
  ·obtain⟨hx1,h⟩:=h
   refine ez hx1 J<|au<|ax J<|bp J<|bW h J (fun h=>?_) (fun h=>?_)
   ·refine aj<|bh 0 f7 J<|s (mE nM tf (.tail _ (.tail _ (.head _))) (.tail _ (.tail _ (.tail _ (.head _)))) J (D J))<|s (eS j5 (mX (D J)))<|s (dP (D J) hI)<|bh 1 qv J<|bO bB sw J<|aJ<|dd V hN J ?_;exact aU (aH (ih (i+1) (av.mk root1.Tag (IntKind.i64.wrap ((out1.Nodes.length:Int)-(1:Int))) root1.R root1.Col root1.Value) out1 l4 c2 ⟨da V,h⟩) (aX J))
   ·refine aj<|bh 0 f7 J<|s (mE nM tf (.tail _ (.tail _ (.head _))) (.tail _ (.tail _ (.tail _ (.head _)))) J (D J))<|s (eS j5 (mX (D J)))<|s (dP (D J) hI)<|bh 2 pq J<|bO bB sv J<|aJ<|dd V hN J ?_;exact aU (aH (ih (i+1) (av.mk root1.Tag root1.L (IntKind.i64.wrap ((out1.Nodes.length:Int)-(1:Int))) root1.Col root1.Value) out1 l4 c2 ⟨da V,h⟩) (aX J))
  ·obtain⟨hx1,h⟩:=h
   refine ew hx1 J<|aP<|ak<|d<|dg j5 eo J (dJ hx1)<|bz eo lc J fun b4=>bO eo aB J<|bu ?_;refine d5 (aa:=fun n=>vJ out (oK (m4 tl) i root1 out tl1) out1 n=some R) (Of:=fun n=>[bx bt 160 b root1,bx bN 84 b1 my,bx bt 160 b4 n,bx oy 84 b2 (qm out1 (ay l4 c2 out1.Nodes.length)),tip bt 160 l4 c2 out1.Nodes]) (Gf:=fun n=>[(2,M (Z b 0)),(4,M (Z b1 0)),(5,M (Z b2 0)),(6,bH (i:Int)),(8,kE out.Nodes),(10,M (Z b4 0)),(13,em (bN) l),(14,kE l),(15,bH (i:Int)),(24,em (bt) e.Nodes),(25,kE e.Nodes),(26,bH (i1:Int))]) (fun n h=>?_) (fun h2=>?_)
   ·skip
    refine d5 (aa:=fun n1=>vI (oK (m4 tl) i root1 out tl1) out1 n1=some R) (Of:=fun n1=>[bx bt 160 b root1,bx bN 84 b1 my,bx bt 160 b4 n1,bx oy 84 b2 (qm out1 (ay l4 c2 out1.Nodes.length)),tip bt 160 l4 c2 out1.Nodes]) (Gf:=fun n1=>[(2,M (Z b 0)),(4,M (Z b1 0)),(5,M (Z b2 0)),(6,bH (i:Int)),(8,kE out.Nodes),(10,M (Z b4 0)),(13,em (bN) l),(14,kE l),(15,bH (i:Int)),(24,em (bt) e.Nodes),(25,kE e.Nodes),(26,bH (i1:Int))]) (fun n1 h=>?_) (fun K1=>?_)
    ·skip
     refine aj<|bh 0 f7 J<|s (mE nM tf (.tail _ (.tail _ (.tail _ (.head _)))) (.tail _ (.tail _ (.tail _ (.tail _ (.head _))))) J (D J))<|s (aL eo J J bC (.tail _ (.tail _ (.head _))) (D J))<|s (aI (r:=bt) (ys:=[n1]) (xs:=[.tmp 48]) j5 eo J J J J J ⟨(D J),aZ⟩)<|j0<|bR h fun l5 q_l5 h=>oo eo J J J J j5 J J (D J) (D J) q_l5 fun l6 c3=>bh 0 f7 J<|j0<|hU nM J (tB _ _ _) J (D J) (FI (xV (D J)))<|aJ<|dd hx1 hN1 J<|eD<|aV<|am<|am<|ba<|ba ?_;exact aU (aH (ih1 (i1+1) ({out1 with Nodes:=l5}:aW) l6 c3 ⟨da hx1,h⟩) (aX J))
    ·skip
     refine d<|bh 2 pq J<|s (aL bB J J oa (.tail _ (.tail _ (.head _))) (D J))<|s (dB (D J) hI)<|bW h J (fun h=>?_) (fun h=>?_)
     ·refine aj<|bh 2 pq J<|s (aL bB J J oa (.tail _ (.tail _ (.head _))) (D J))<|Q J<|s (cW (D J) (D J))<|bh 2 pq J<|cZ<|bO bB sv J<|aJ<|eD<|eD<|aT<|eD<|eD ?_;exact bE (K1 (av.mk n.Tag n.L (IntKind.i64.wrap (n.R+(out.Nodes.length:Int))) n.Col n.Value) h) (aX J)
     ·refine bc ?_;exact bE (K1 n h) (aX J)
   ·skip
    refine d<|bh 1 qv J<|s (aL bB J J pY (.head _) (D J))<|s (dB (D J) hI)<|bW h J (fun h=>?_) (fun h=>?_)
    ·refine aj<|bh 1 qv J<|s (aL bB J J pY (.head _) (D J))<|Q J<|s (cW (D J) (D J))<|bh 1 qv J<|bO bB sw J<|aJ<|eD<|eD<|aT<|eD<|eD ?_;exact bE (h2 (av.mk e1.Tag (IntKind.i64.wrap (e1.L+(out.Nodes.length:Int))) e1.R e1.Col e1.Value) h) (aX J)
    ·refine bc<|eD<|eD<|aT<|eD<|eD ?_;exact bE (h2 e1 h) (aX J)

def RR: ∀(fu:Nat) (l:dZ) (at1:Int) {R:Int} (h:d9 fu l at1=some R),cX bd 179 [tD lP l,bH at1] (bH R):=by
 intro fu
 induction fu with
 |zero=>intro l at1 R h;exact(nn h).elim
 |succ fu ih=>
  intro l at1 R h
  refine dK Tryz.func179 J<|d<|dl J<|ca<|bu<|aS<|Q J<|s (fH (D J) hI)<|Q J<|aD J (bX J)<|aD J (bv pb m8 J J)<|aD J (bq qe J J)<|aD J (gp j4 J)<|aD J (fun Y=>dB (bl J Y) (bl J Y))<|dG J<|bW h J (fun h=>?_) (fun h=>?_)
  ·exact d<|eg<|af<|so h▸aA J J
  ·refine fN<|d<|aQ pb m8 qe J<|Q J<|bR h fun e q_e h=>dg j4 dA J q_e<|bz dA ie J fun b=>bO dA aB J<|bj 5 J<|bu<|aS<|aQ ft cB bB J<|eE h VZ (NH _) (cy J) fun r h=>bu ?_;refine ak<|d<|bp J<|aN J<|fy h J (fun h=>?_) (fun h=>?_)
   ·refine d<|aQ jw fS bB J<|bp J<|Q J<|ae J (bv kz hE J J)<|ae J (bq bB J J)<|ae J (gQ J)<|cm J<|bW h J (fun h=>?_) (fun h=>?_)
    ·exact d<|eg<|cx<|so h▸aA J J
    ·exact bc<|al<|au<|d<|eg<|so h▸aA J J
   ·refine d<|bp J<|aN J<|fy h J (fun h=>?_) (fun h=>?_)
    ·refine d<|aQ jw fS bB J<|Q J<|s (dP (D J) hI)<|s (di (D J) (D J))<|Q J<|ae J (bv kz hE J J)<|ae J (bq bB J J)<|ae J (gQ J)<|cm J<|bW h J (fun h=>?_) (fun h=>?_)
     ·refine d<|dH FP J<|aQ jw fS bB J<|eE h NT (ih _ _) (cy J) fun r1 h=>aN J<|ax J<|s (dD (D J) hI)<|bW h J (fun h=>?_) (fun h=>?_)
      ·exact ax J<|s (cW (D J) hI)<|bf J<|cx<|so h▸aA J J
      ·exact bc<|al<|au<|d<|eg<|so h▸aA J J
     ·exact bc<|al<|au<|d<|eg<|so h▸aA J J
    ·refine d<|bp J<|aN J<|fy h J (fun h=>?_) (fun h=>?_)
     ·refine d<|aQ kz hE bB J<|Q J<|s (dP (D J) hI)<|s (di (D J) (D J))<|bW h J (fun h=>?_) (fun h=>?_)
      ·refine d<|dH FP J<|aQ kz hE bB J<|eE h NT (ih _ _) (cy J) fun r2 h=>aN J<|ax J<|s (dD (D J) hI)<|Q J<|ae J (bv jw fS J J)<|ae J (bq bB J J)<|ae J (bv kz hE J J)<|ae J (bq bB J J)<|ae J (bX J)<|ae J (fun Y=>dP (bl J Y) (bl J Y))<|ae J (fun Y=>di (bl J Y) (bl J Y))<|cm J<|aJ ?_;refine au<|fy h J (fun h=>?_) (fun h=>?_)
       ·refine d<|dH FP J<|aQ jw fS bB J<|eE h NT (ih _ _) (cy J) fun r3 h=>aN J<|ax J<|s (dD (D J) hI)<|bW h J (fun h=>?_) (fun h=>?_)
        ·exact ax J<|Q J<|s (cW (D J) (D J))<|s (cW (D J) hI)<|bf J<|cx<|so h▸aA J J
        ·exact bc<|al<|au<|d<|eg<|so h▸aA J J
       ·exact bc<|al<|au<|d<|eg<|so h▸aA J J
      ·exact bc<|al<|au<|d<|eg<|so h▸aA J J
     ·exact bc<|al<|au<|d<|eg<|so h▸aA J J
def UG l at1{R}(h:Af l at1=some R):cX bd 179 [tD lP l,bH at1] (bH R):=RR dk l at1 h

end Go.Proofs.YtdohlidddcgfjaaGreat

