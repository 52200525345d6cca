/- co of this claim: P13. -/
import Derived.Test.YtmogpgcfognefaaGreatDoorNeT
import Derived.Test.YtmogpgcfognefaaGreatDoorNeP12
set_option linter.all false
namespace Go.Proofs.YtmogpgcfognefaaGreatDoor
open Go
set_option maxRecDepth 100000

theorem M8(root:bc)(l:(List bf)){R:bf}(h:wT root l=some R):aN aM 64 [tD aQ root,d7 (bn) l] (tD bn R):=by
 refine aN.of Tryz.func64 J J J fun w0 S0=>aq<|yz (ht J) J fun b=>aO (r:=bn) (x:=nH) gj (fun _=>nJ _) J fun b1=>an<|aq<|cm true aQ 149<|aO (r:=gC) (x:=gV nH (aw none 0 (L6.length))) gj yP J fun b2=>an<|aq<|zo J (fI 1 pi J J J)<|dZ<|ay bJ J te J (ht J) hI<|zo J (fI 2 ph J J J)<|ay bJ J td J (ht J) hI<|an<|ae<|ae ?_;refine ai<|aA J<|zo J (ja sX J)<|zo J (bl hI)<|an<|ax<|aV (k:=13) J fun hN=>bB<|jI<|jI<|d3<|d3 ?_;refine aJ (sN (Z:=fun ls i root1 out l1 c=>(l.drop i=ls)∧lv ls i root1 out=some R) (Of:=fun _ i root1 out l1 c=>[bx aQ 149 b root1,bx bn 45 b1 nH,bx gC 45 b2 (gV out (aw l1 c out.Nodes.length)),eF aQ 149 l1 c out.Nodes]) (Gf:=fun _ i root1 out l1 c=>[(2,tV (aI b 0)),(4,tV (aI b1 0)),(5,tV (aI b2 0)),(13,d7 (bn) l),(14,hM l),(15,bH (i:Int))]) (fun i root1 out l1 c h=>?_) (fun e tl ih i root1 out l1 c h=>?_) l 0 (bc.mk root.Tag mt mt root.Col root.Value) ({nH with Nodes:=L6}:bf) none 0 ⟨J,h⟩) (aZ J)
 ·obtain⟨hx,h⟩:=h
  refine av<|aq<|zo J (eK J J)<|an<|ae<|bp (ht J) (cW hx)<|bg ?_;refine ac (ac (aF ?_));refine au<|aq<|zo rfl (fI 0 fa rfl rfl rfl)<|zo rfl (gD lU mj (.tail _ (.tail _ (.head _))) (.tail _ (.tail _ (.tail _ (.head _)))) rfl (ht rfl))<|zo rfl (br cY rfl rfl cF (.head _) (ht rfl))<|zo rfl (aP (r:=aQ) (ys:=[root1]) (xs:=[.tmp 68]) jB cY J J J J J ⟨(ht J),aU⟩)<|dZ<|bF h fun l2 q_l2 h=>j5 cY J J J J jB J J (ht J) (ht J) q_l2 fun l3 c1=>zo J (fI 0 fa J J J)<|dZ<|dB lU J (pS _ _ _) J (ht J) (AW (xz (ht J)))<|an<|aq<|bD<|zo J (q4 (q:=bn) (y:=({out with Nodes:=l2}:bf)) gj J J J J (.tail _ (.head _)) (fun _ _ _ ho h=>vi (ju ho (.head _)) h) (ht J))<|dZ<|ay gj J ap J (ht J) (ht J)<|aL 4 J<|an ?_;refine aj<|ba<|ba<|ba ?_;cases so h;exact eE J gj J J J
 ·obtain⟨hx,h⟩:=h
  refine av<|aq<|zo J (eK J J)<|an<|ae<|bo (ht J) (cU hx)<|dA<|ae<|ax<|aq<|aA J<|zo J (iX sX gj J J J (cP hx))<|zo J (bz gj J J)<|aO (r:=bn) (x:=nH) gj (fun _=>nJ _) J fun b3=>bk J<|ay gj J ap J (ht J) (ht J)<|aL 7 J<|an<|ae ?_;refine ai<|zo J (fI 0 fa J J J)<|zo J (gD lU mj (.tail _ (.tail _ (.head _))) (.tail _ (.tail _ (.tail _ (.head _)))) J (ht J))<|zo J (bN jB (pC (ht J)))<|bk J<|an<|ae<|aq<|zo J (cd fa dw J J)<|zo J (bz lU J J)<|zo J (ja jB J)<|zo J (bl hI)<|an<|ax<|aV (k:=24) J fun hN1=>bB ?_;refine aJ (mp (Z:=fun ls1 i1 out1 l4 c2=>(e.Nodes.drop i1=ls1)∧lu (lv tl) i root1 out ls1 out1=some R) (Of:=fun _ i1 out1 l4 c2=>[bx aQ 149 b root1,bx bn 45 b1 nH,bx gC 45 b2 (gV out1 (aw l4 c2 out1.Nodes.length)),eF aQ 149 l4 c2 out1.Nodes]) (Gf:=fun _ i1 out1 l4 c2=>[(2,tV (aI b 0)),(4,tV (aI b1 0)),(5,tV (aI b2 0)),(6,bH (i:Int)),(8,hM out.Nodes),(13,d7 (bn) l),(14,hM l),(15,bH (i:Int)),(24,d7 (aQ) e.Nodes),(25,hM e.Nodes),(26,bH (i1:Int))]) (fun i1 out1 l4 c2 h=>?_) (fun e1 tl1 ih1 i1 out1 l4 c2 h=>?_) e.Nodes 0 out l1 c ⟨J,h⟩) (aZ J)
  ·obtain⟨hx1,h⟩:=h
   refine av<|aq<|zo J (eK J J)<|an<|ae<|bp (ht J) (cW hx1)<|bg ?_;refine ac (ac (aF ?_));refine au<|aq<|aA rfl<|zo rfl (jy rfl)<|an<|cX h rfl (fun h=>?_) (fun h=>?_)
   ·refine ai<|zo J (fI 0 fa J J J)<|zo J (gD lU mj (.tail _ (.tail _ (.head _))) (.tail _ (.tail _ (.tail _ (.head _)))) J (ht J))<|zo J (bN jB (pC (ht J)))<|zo J (fK (ht J) hI)<|zo J (fI 1 pi J J J)<|ay bJ J te J (ht J) (ht J)<|aH<|am<|au<|ai<|zo rfl (jU (cz hx hN) rfl)<|aA rfl<|aH ?_;exact aT (aJ (ih (i+1) (bc.mk root1.Tag (IntKind.i64.wrap ((out1.Nodes.length:Int)-(1:Int))) root1.R root1.Col root1.Value) out1 l4 c2 ⟨cy hx,h⟩) (aZ J))
   ·refine ai<|zo J (fI 0 fa J J J)<|zo J (gD lU mj (.tail _ (.tail _ (.head _))) (.tail _ (.tail _ (.tail _ (.head _)))) J (ht J))<|zo J (bN jB (pC (ht J)))<|zo J (fK (ht J) hI)<|zo J (fI 2 ph J J J)<|ay bJ J td J (ht J) (ht J)<|aH<|am<|au<|ai<|zo rfl (jU (cz hx hN) rfl)<|aA rfl<|aH ?_;exact aT (aJ (ih (i+1) (bc.mk root1.Tag root1.L (IntKind.i64.wrap ((out1.Nodes.length:Int)-(1:Int))) root1.Col root1.Value) out1 l4 c2 ⟨cy hx,h⟩) (aZ J))
  ·obtain⟨hx1,h⟩:=h
   refine av<|aq<|zo J (eK J J)<|an<|ae<|bo (ht J) (cU hx1)<|dA<|ae<|ax<|aq<|zo J (iX jB cY J J J (cP hx1))<|zo J (bz cY J J)<|aO (r:=aQ) (x:=ue) cY (fun _=>k8 _) J fun b4=>ay cY J ap J (ht J) (ht J)<|an ?_;refine fD (Z:=fun n=>sb out (lu (lv tl) i root1 out tl1) out1 n=some R) (Of:=fun n=>[bx aQ 149 b root1,bx bn 45 b1 nH,bx aQ 149 b4 n,bx gC 45 b2 (gV out1 (aw l4 c2 out1.Nodes.length)),eF aQ 149 l4 c2 out1.Nodes]) (Gf:=fun n=>[(2,tV (aI b 0)),(4,tV (aI b1 0)),(5,tV (aI b2 0)),(6,bH (i:Int)),(8,hM out.Nodes),(10,tV (aI b4 0)),(13,d7 (bn) l),(14,hM l),(15,bH (i:Int)),(24,d7 (aQ) e.Nodes),(25,hM e.Nodes),(26,bH (i1:Int))]) (fun n h=>?_) (fun K=>?_)
   ·skip
    refine fD (Z:=fun n1=>sa (lu (lv tl) i root1 out tl1) out1 n1=some R) (Of:=fun n1=>[bx aQ 149 b root1,bx bn 45 b1 nH,bx aQ 149 b4 n1,bx gC 45 b2 (gV out1 (aw l4 c2 out1.Nodes.length)),eF aQ 149 l4 c2 out1.Nodes]) (Gf:=fun n1=>[(2,tV (aI b 0)),(4,tV (aI b1 0)),(5,tV (aI b2 0)),(6,bH (i:Int)),(8,hM out.Nodes),(10,tV (aI b4 0)),(13,d7 (bn) l),(14,hM l),(15,bH (i:Int)),(24,d7 (aQ) e.Nodes),(25,hM e.Nodes),(26,bH (i1:Int))]) (fun n1 h=>?_) (fun K1=>?_)
    ·skip
     refine ai<|zo J (fI 0 fa J J J)<|zo J (gD lU mj (.tail _ (.tail _ (.tail _ (.head _)))) (.tail _ (.tail _ (.tail _ (.tail _ (.head _))))) J (ht J))<|zo J (br cY J J cF (.tail _ (.tail _ (.head _))) (ht J))<|zo J (aP (r:=aQ) (ys:=[n1]) (xs:=[.tmp 48]) jB cY J J J J J ⟨(ht J),aU⟩)<|vY<|bF h fun l5 q_l5 h=>j5 cY J J J J jB J J (ht J) (ht J) q_l5 fun l6 c3=>zo J (fI 0 fa J J J)<|vY<|dB lU J (pS _ _ _) J (ht J) (AW (xz (ht J)))<|aH<|am<|au<|ai<|zo rfl (jU (cz hx1 hN1) rfl)<|aA rfl<|aH<|gZ<|ba<|aX<|aX<|bv<|bv ?_;exact aT (aJ (ih1 (i1+1) ({out1 with Nodes:=l5}:bf) l6 c3 ⟨cy hx1,h⟩) (aZ J))
    ·skip
     refine aq<|zo J (fI 2 ph J J J)<|zo J (br bJ J J oT (.tail _ (.tail _ (.head _))) (ht J))<|zo J (dQ (ht J) hI)<|an<|cX h J (fun h=>?_) (fun h=>?_)
     ·refine ai<|zo J (fI 2 ph J J J)<|zo J (br bJ J J oT (.tail _ (.tail _ (.head _))) (ht J))<|aA J<|zo J (jZ (ht J) (ht J))<|zo J (fI 2 ph J J J)<|jg<|ay bJ J td J (ht J) (ht J)<|aH<|gZ<|gZ<|aR<|gZ<|gZ ?_;exact bL (K1 (bc.mk n.Tag n.L (IntKind.i64.wrap (n.R+(out.Nodes.length:Int))) n.Col n.Value) h) (aZ J)
     ·refine bA ?_;exact bL (K1 n h) (aZ J)
   ·skip
    refine aq<|zo J (fI 1 pi J J J)<|zo J (br bJ J J oU (.head _) (ht J))<|zo J (dQ (ht J) hI)<|an<|cX h J (fun h=>?_) (fun h=>?_)
    ·refine ai<|zo J (fI 1 pi J J J)<|zo J (br bJ J J oU (.head _) (ht J))<|aA J<|zo J (jZ (ht J) (ht J))<|zo J (fI 1 pi J J J)<|ay bJ J te J (ht J) (ht J)<|aH<|gZ<|gZ<|aR<|gZ<|gZ ?_;exact bL (K (bc.mk e1.Tag (IntKind.i64.wrap (e1.L+(out.Nodes.length:Int))) e1.R e1.Col e1.Value) h) (aZ J)
    ·refine bA<|gZ<|gZ<|aR<|gZ<|gZ ?_;exact bL (K e1 h) (aZ J)

end Go.Proofs.YtmogpgcfognefaaGreatDoor

