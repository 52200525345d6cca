/- cE of this claim: P16. -/
import Derived.Test.YtdohlidddcgfjaaGreatFcT
import Derived.Test.YtdohlidddcgfjaaGreatFcP15
set_option linter.all false
namespace Go.Proofs.YtdohlidddcgfjaaGreat
open Go
set_option maxRecDepth 100000

def UF n a1 b{R}(h:cK n a1 b=some R):cX bd 180 [tD aM n,jK a1,jK b] (tT [jK R.1,fM R.2]):=by
 refine dK Tryz.func180 J<|d<|dl J<|fO bV<|bm<|bu<|d<|ci false bV 3<|s (bU tE)<|bu<|d<|bm<|bu<|aS<|aQ ft cB bB J ?_;refine bu<|ak<|d<|bp J<|aN J<|fy h J (fun h=>?_) (fun h=>?_)
 ·refine aS<|ca<|bu<|ak<|bA<|lu ?_;refine aH (zk (aa:=fun n1 ok i=>ji n n1 ok i=some R) (Of:=fun ok i=>[]) (Gf:=fun ok i=>[(3,ck aM n),(9,fM ok),(10,bH i)]) (fun ok i h=>nn h) (fun n1 ih ok i h=>?_) dk true (0:Int) h) (aX J);refine cJ<|aS<|Q J<|aQ jI dW cu J<|bI df J<|jC J<|bW h J (fun h=>?_) (fun h=>?_)
  ·refine fN<|aP<|ak<|aj<|Q J<|Q J<|bR h fun t q_t h=>ae J (bv jI dW J J)<|ae J (bq cu J J)<|ae J (bX J) ?_
   obtain⟨e,h1t,h0t⟩:=og q_t
   have q_eg:=fun H=>(h1t H).1
   refine ae J (fun Y=>fJ df bB J (bl J Y) (bl J Y) (q_eg Y))<|ae J (bq bB J J)<|ae J (fun Y=>dB (bl J Y) hI)<|s (co (D J) (fun H=>(bl J H)) (fun H=>(h1t H).2) h0t)<|Q J<|bR h fun t1 q_t1 h=>ae J (bv jI dW J J)<|ae J (bq cu J J)<|ae J (bX J) ?_
   obtain⟨e1,h1t1,h0t1⟩:=og q_t1
   have q_e1g:=fun H=>(h1t1 H).1
   refine ae J (fun Y=>fJ df bB J (bl J Y) (bl J Y) (q_e1g Y))<|ae J (bq bB J J)<|ae J (fun Y=>eY (bl J Y) hI)<|s (co (D J) (fun H=>(bl J H)) (fun H=>(h1t1 H).2) h0t1)<|d6 J<|aJ<|al<|au<|aj<|Q J<|s (cW (D J) hI)<|d6 J<|aJ ?_;exact aU (aH (ih t1 (IntKind.i64.wrap (i+(1:Int))) h) (aX J))
  ·refine cQ<|ap<|ap<|bL<|au<|aP ?_
   refine gO (ts:=[_,_,_,_,_,_,_,_,_,_,_,_,_,_,_,_,_,_,_,_,_,_,_,_,_,_,_]) mixed J J
    ⟨zZ 3 J J (oq jI dW J J),
    ⟨lK 0 cu J J,
    ⟨fP J J,
    ⟨ff 51 2 J J (mt J),
    ⟨tt 3 52 3 J J J (dX J J J J (fun Y=>oq p6 ip J J)),
    ⟨km 53 4 52 3 J J J (dX J J J J (fun Y=>ej bB J J (bl J Y))),
    ⟨km 54 5 52 3 J J J (dX J J J J (fun Y=>dB (bl J Y) hI)),
    ⟨ga 52 3 55 6 J J J (PR J J),
    ⟨ff 56 7 J J (mt J),
    ⟨tt 3 57 8 J J J (dX J J J J (fun Y=>oq p6 ip J J)),
    ⟨km 58 9 57 8 J J J (dX J J J J (fun Y=>ej bB J J (bl J Y))),
    ⟨km 59 10 57 8 J J J (dX J J J J (fun Y=>eY (bl J Y) hI)),
    ⟨ga 57 8 60 11 J J J (PR J J),
    ⟨ff 61 12 J J (mt J),
    ⟨tt 3 62 13 J J J (dX J J J J (fun Y=>oq jI dW J J)),
    ⟨km 63 14 62 13 J J J (dX J J J J (fun Y=>ej cu J J (bl J Y))),
    ⟨km 64 15 62 13 J J J (dX J J J J (fun Y=>eS df (bl J Y))),
    ⟨km 65 16 62 13 J J J (dX J J J J (fun Y=>dB (bl J Y) hI)),
    ⟨ga 62 13 66 17 J J J (PR J J),
    ⟨ff 67 18 J J (mt J),
    ⟨tt 3 68 19 J J J (dX J J J J (fun Y=>oq jI dW J J)),
    ⟨km 69 20 68 19 J J J (dX J J J J (fun Y=>ej cu J J (bl J Y))),
    ⟨km 70 21 68 19 J J J (dX J J J J (fun Y=>eS df (bl J Y))),
    ⟨km 71 22 68 19 J J J (dX J J J J (fun Y=>eY (bl J Y) hI)),
    ⟨ga 68 19 72 23 J J J (PR J J),
    ⟨ff 50 1 J J (DX J),
    ⟨ff 73 24 J J (DX J),
    aZ⟩⟩⟩⟩⟩⟩⟩⟩⟩⟩⟩⟩⟩⟩⟩⟩⟩⟩⟩⟩⟩⟩⟩⟩⟩⟩⟩ ?_
   exact au<|pd<|cx<|so h▸cg J J J
 ·refine d<|bp J<|aN J<|fy h J (fun h=>?_) (fun h=>?_)
  ·refine ax J<|Q J<|bR h fun l q_l h=>bD bB J J J J df J J (D J) (D J) q_l fun l1 c=>Q J<|bR h fun out q_out h=>bD bB J J J J df J J (D J) (D J) q_out fun l2 c1=>aN J<|ax J<|aQ pZ iQ gn J<|Q J<|ic<|fT 80 J<|fT 8 J<|fT 81 J<|fT 84 J<|bR h fun r q_r h=>?_;exact s (cD VW (ND _ _ q_r) ⟨(D J),(mX (D J)),aZ⟩)<|d6 J<|bf J<|cx<|eW 6 J<|aV<|so h▸cg J J J
  ·refine d<|bp J<|aN J<|fy h J (fun h=>?_) (fun h=>?_)
   ·exact ax J<|aQ pZ iQ gn J<|Q J<|eE h VW (ND _ _) (cy J) fun r1 h=>d6 J<|bf J<|cx<|aV<|so h▸cg J J J
   ·refine d<|bp J<|aN J<|fy h J (fun h=>?_) (fun h=>?_)
    ·refine aS<|ca<|bu<|ak<|bA ?_;refine aH (qW (aa:=fun n2 out1 l3 c2 i1=>lS n a1 n2 out1 i1=some R) (Of:=fun out1 l3 c2 i1=>[db bV 3 l3 c2 out1]) (Gf:=fun out1 l3 c2 i1=>[(1,jK a1),(3,ck aM n),(8,nO l3 c2 out1),(9,fM true),(11,bH i1)]) (fun out1 l3 c2 i1 h=>nn h) (fun n2 ih1 out1 l3 c2 i1 h=>?_) dk pu none 0 (0:Int) h) (aX J);refine cJ<|aS<|Q J<|aQ ju dE cu J<|bI df J<|jC J<|bW h J (fun h=>?_) (fun h=>?_)
     ·refine fN<|aP<|ak<|aS<|aQ ju dE cu J<|Q J<|bR h fun e2 q_e2 h=>dg df bB J q_e2<|s (fH (D J) hI)<|Q J<|aD J (bv ju dE J J)<|aD J (bq cu J J)<|aD J (bX J)<|aD J (fun Y=>fJ df bB J (bl J Y) (bl J Y) q_e2)<|aD J (bq bB J J)<|aD J (bX J)<|aD J (gp df J)<|aD J (fun Y=>dB (bl J Y) (bl J Y))<|dG J ?_;refine bW h J (fun h=>?_) (fun h=>?_)
      ·exact d<|fO bV<|bm<|bM<|af<|cx<|af<|cx<|cx<|aV<|so h▸cg J J J
      ·refine fN<|aj<|Q J<|Q J<|aQ ju dE cu J<|Q J<|dg df bB J q_e2<|bR h fun e3 q_e3 h=>dg df bB J q_e3<|s (aI (r:=bV) (ys:=[e3]) (xs:=[.tmp 126]) df bB J J J J J ⟨(D J),aZ⟩)<|bR h fun out2 q_out2 h=>bD bB J J J J df J J (D J) (D J) q_out2 fun l4 c3=>d6 J<|aJ<|al<|au<|aj<|Q J<|s (cW (D J) hI)<|d6 J ?_;refine aJ ?_;exact aU (aH (ih1 out2 l4 c3 (IntKind.i64.wrap (i1+(1:Int))) h) (aX J))
     ·refine cQ<|ap<|ap<|bL<|au<|aS<|ca<|bu<|ak<|bA ?_;refine aH (zj (aa:=fun n3 out3 l5 c4 ok1 i2=>lR n a1 n3 out3 ok1 i2=some R) (Of:=fun out3 l5 c4 ok1 i2=>[db bV 3 l5 c4 out3]) (Gf:=fun out3 l5 c4 ok1 i2=>[(1,jK a1),(3,ck aM n),(8,nO l5 c4 out3),(9,fM ok1),(12,bH i2)]) (fun out3 l5 c4 ok1 i2 h=>nn h) (fun n3 ih2 out3 l5 c4 ok1 i2 h=>?_) dk out1 l3 c2 true (0:Int) h) (aX J);refine cJ<|aS<|Q J<|aQ gA cO o0 J<|bI lb J<|jC J<|bW h J (fun h=>?_) (fun h=>?_)
      ·refine fN<|aP<|ak<|d<|aQ gA cO o0 J<|Q J<|bR h fun e4 q_e4 h=>dg lb ig J q_e4<|Q J<|eE h aaP (Uw _ _) (cy J) fun r2 h=>Q J<|dz J J<|dz J J<|d6 J<|aN J<|d ?_;refine Q J<|Q J<|s (aI (r:=bV) (ys:=[r2.1]) (xs:=[.tmp 147]) df bB J J J J J ⟨(D J),aZ⟩)<|bR h fun out4 q_out4 h=>bD bB J J J J df J J (D J) (D J) q_out4 fun l6 c5=>aN J<|aj<|Q J<|Q J<|ae J (bX J)<|cm J<|d6 J<|aJ<|al<|au<|aj<|Q J<|s (cW (D J) hI)<|d6 J<|aJ ?_;exact aU (aH (ih2 out4 l6 c5 (ok1&&r2.2) (IntKind.i64.wrap (i2+(1:Int))) h) (aX J))
      ·refine cQ<|ap<|ap<|bL<|au<|ax J<|Q J<|Q J<|ae J (bv ju dE J J)<|ae J (bq cu J J)<|ae J (gp df J)<|ae J (fun Y=>eY (bl J Y) hI)<|cm J<|Q J<|ae J (bv gA cO J J)<|ae J (bq o0 J J)<|ae J (gp lb J)<|ae J (fun Y=>eY (bl J Y) hI)<|cm J<|Q J<|ae J (bX J)<|ae J (fun Y=>ir df (.head _) (bl J Y)) ?_;exact ae J (fun Y=>dD (bl J Y) hI)<|cm J<|d6 J<|bf J<|cx<|dq<|bP 8 J<|bP 154 J<|bP 6 J<|eW 6 J<|aV<|so h▸cg J J J
    ·refine d<|bp J<|aN J<|fy h J (fun h=>?_) (fun h=>?_)
     ·refine aS<|ca<|bu<|ak<|bA ?_;refine aH (zj (aa:=fun n4 out5 l7 c6 ok2 i3=>lQ n a1 n4 out5 ok2 i3=some R) (Of:=fun out5 l7 c6 ok2 i3=>[db bV 3 l7 c6 out5]) (Gf:=fun out5 l7 c6 ok2 i3=>[(1,jK a1),(3,ck aM n),(8,nO l7 c6 out5),(9,fM ok2),(15,bH i3)]) (fun out5 l7 c6 ok2 i3 h=>nn h) (fun n4 ih3 out5 l7 c6 ok2 i3 h=>?_) dk pu none 0 true (0:Int) h) (aX J);refine cJ<|aS<|Q J<|aQ oc io wH J<|bI qD J<|jC J<|bW h J (fun h=>?_) (fun h=>?_)
      ·refine fN<|aP<|ak<|d<|aQ oc io wH J<|Q J<|bR h fun e5 q_e5 h=>dg qD gn J q_e5<|Q J<|eE h Sh (Iy _ _) (cy J) fun r3 h=>Q J<|dz J J<|dz J J<|d6 J<|aN J<|d ?_;refine Q J<|Q J<|s (aI (r:=bV) (ys:=[r3.1]) (xs:=[.tmp 193]) df bB J J J J J ⟨(D J),aZ⟩)<|bR h fun out6 q_out6 h=>bD bB J J J J df J J (D J) (D J) q_out6 fun l8 c7=>aN J<|aj<|Q J<|Q J<|ae J (bX J)<|ae J (gQ J)<|cm J<|d6 J<|aJ<|al<|au<|aj<|Q J<|s (cW (D J) hI)<|d6 J<|aJ ?_;exact aU (aH (ih3 out6 l8 c7 (ok2&&(r3.2==(0:Int))) (IntKind.i64.wrap (i3+(1:Int))) h) (aX J))
      ·refine cQ<|ap<|ap<|bL<|au<|ax J<|Q J<|Q J<|ae J (bX J)<|ae J (fun Y=>ir df (.head _) (bl J Y))<|ae J (fun Y=>dB (bl J Y) hI)<|cm J<|Q J<|ae J (bX J)<|ae J (fun Y=>ir df (.head _) (bl J Y))<|ae J (fun Y=>eY (bl J Y) hI)<|cm J<|d6 J<|bf J ?_;exact cx<|dq<|bP 8 J<|bP 201 J<|bP 6 J<|eW 6 J<|aV<|so h▸cg J J J
     ·refine d<|bp J<|aN J<|fy h J (fun h=>?_) (fun h=>?_)
      ·exact ax J<|d6 J<|bm<|bM<|cx<|aV<|so h▸cg J J J
      ·refine d<|bp J<|aN J<|fy h J (fun h=>?_) (fun h=>?_)
       ·refine aS<|Q J<|bI df J<|Q J<|bI df J<|s (du (D J) (D J))<|bW h J (fun h=>?_) (fun h=>?_)
        ·exact d<|fO bV<|bm<|bM<|af<|cx<|aV<|so h▸cg J J J
        ·refine fN<|aS<|ca<|bu<|ak<|bo (k:=1) J fun hN=>bA ?_;refine aH (yN (aa:=fun ls i4 out7 l9 c8 ok3=>(a1.drop i4=ls)/\jh b ls i4 out7 ok3=some R) (Of:=fun _ i4 out7 l9 c8 ok3=>[db bV 3 l9 c8 out7]) (Gf:=fun _ i4 out7 l9 c8 ok3=>[(1,jK a1),(2,jK b),(8,nO l9 c8 out7),(9,fM ok3),(18,bH (i4:Int))]) (fun i4 out7 l9 c8 ok3 h=>?_) (fun e6 tl ih4 i4 out7 l9 c8 ok3 h=>?_) a1 0 pu none 0 true ⟨J,h⟩) (aX J)
         ·obtain⟨V,h⟩:=h
          refine Qi df V J<|au<|ax J<|Q J<|d6 J<|aN J ?_;exact pd<|cx<|dq<|bP 8 J<|bP 259 J<|bP 6 J<|eW 6 J<|aV<|so h▸cg J J J
         ·obtain⟨V,h⟩:=h
          refine Qh df V J<|aP<|ak<|ax J<|Q J<|dg df bB J (dJ V)<|aN J ?_;refine d5 (aa:=fun k=>pK b (jh b tl) i4 out7 ok3 k=some R) (Of:=fun k=>[db bV 3 l9 c8 out7]) (Gf:=fun k=>[(1,jK a1),(2,jK b),(8,nO l9 c8 out7),(9,fM ok3),(18,bH (i4:Int)),(19,bH k)]) (fun k h=>?_) (fun h2=>?_)
          ·skip
           refine ax J<|Q J<|s (aI (r:=bV) (ys:=[k]) (xs:=[.tmp 240]) df bB J J J J J ⟨(D J),aZ⟩)<|bR h fun out8 q_out8 h=>bD bB J J J J df J J (D J) (D J) q_out8 fun l10 c9=>aN J<|aj<|Q J<|Q J<|bR h fun t2 q_t2 h=>ae J (bX J)<|ae J (bX J) ?_
           obtain⟨e7,h1t2,h0t2⟩:=og q_t2
           have q_e7g:=fun H=>(h1t2 H).1
           refine ae J (fun Y=>fJ df bB J (bl J Y) (bl J Y) (q_e7g Y))<|ae J (bq bB J J)<|ae J (bX J)<|ae J (fun Y=>di (bl J Y) (bl J Y))<|ae J (nQ J) ?_
           obtain⟨t3,h1t2⟩:=og2 (fun H=>(h1t2 H).2)
           have q_t3g:=fun H=>(h1t2 H).1
           refine cF J J J J (fun Y=>mt J)<|cF J J J J (fun Y=>mt J) ?_
           obtain⟨e8,h1t3,h0t3⟩:=og3 q_t3g
           have q_e8g:=fun H=>(h1t3 H).1
           refine cF J J J J (fun Y=>fJ df bB J (bl J Y) (bl J Y) (q_e8g Y))<|cF J J J J (fun Y=>ej bB J J (bl J Y))<|cF J J J J (fun Y=>di (bl J Y) hI)<|ae J (fun Y=>jl (bl J Y) (fun H=>(bl J (sd Y (sb H)))) (fun H=>(h1t3 (sd Y H)).2) (fun H=>h0t3 Y H))<|s (co (D J) (fun H=>(bl J H)) (fun H=>(h1t2 H).2) h0t2)<|d6 J<|aJ<|MR V hN J ?_;exact aU (aH (ih4 (i4+1) out8 l10 c9 t2 ⟨da V,h⟩) (aX J))
          ·skip
           refine ax J<|bp J<|bW h J (fun h=>?_) (fun h=>?_)
           ·refine aj<|Q J<|Q J<|bR h fun e9 q_e9 h=>dg df bB J q_e9<|d6 J<|aJ ?_;exact bE (h2 e9 h) (aX J)
           ·refine bc ?_;exact bE (h2 e6 h) (aX J)
       ·refine bc<|al<|au<|aS<|ca<|bu<|ak<|bA<|lu ?_;refine aH (zk (aa:=fun n5 ok4 i5=>jg n a1 n5 ok4 i5=some R) (Of:=fun ok4 i5=>[]) (Gf:=fun ok4 i5=>[(1,jK a1),(3,ck aM n),(9,fM ok4),(20,bH i5)]) (fun ok4 i5 h=>nn h) (fun n5 ih5 ok4 i5 h=>?_) dk true (0:Int) h) (aX J);refine cJ<|aS<|Q J<|aQ jv ep ur J<|bI rz J<|jC J<|bW h J (fun h=>?_) (fun h=>?_)
        ·refine fN<|aP<|ak<|aj<|Q J<|Q J<|bR h fun t4 q_t4 h=>ae J (bv jv ep J J)<|ae J (bq ur J J)<|ae J (bX J) ?_
         obtain⟨e10,h1t4,h0t4⟩:=og q_t4
         have q_e10g:=fun H=>(h1t4 H).1
         refine ae J (fun Y=>fJ rz pA J (bl J Y) (bl J Y) (q_e10g Y))<|ae J (fun Y=>fj y9 J uI J (bl J Y))<|ae J (bq bB J J)<|ae J (fun Y=>dB (bl J Y) hI)<|s (co (D J) (fun H=>(bl J H)) (fun H=>(h1t4 H).2) h0t4)<|Q J<|bR h fun t5 q_t5 h=>ae J (bv jv ep J J)<|ae J (bq ur J J)<|ae J (bX J) ?_
         obtain⟨e11,h1t5,h0t5⟩:=og q_t5
         have q_e11g:=fun H=>(h1t5 H).1
         refine ae J (fun Y=>fJ rz pA J (bl J Y) (bl J Y) (q_e11g Y))<|ae J (fun Y=>fj y9 J uI J (bl J Y))<|ae J (bq bB J J)<|ae J (bX J)<|ae J (gp df J)<|ae J (fun Y=>fH (bl J Y) (bl J Y))<|s (co (D J) (fun H=>(bl J H)) (fun H=>(h1t5 H).2) h0t5)<|d6 J<|aJ<|al<|au<|aj<|Q J<|s (cW (D J) hI)<|d6 J<|aJ ?_;exact aU (aH (ih5 t5 (IntKind.i64.wrap (i5+(1:Int))) h) (aX J))
        ·refine cQ<|ap<|ap<|bL<|au<|aP ?_
         refine gO (ts:=[_,_,_,_,_,_,_,_,_,_,_,_,_,_,_,_,_,_,_,_]) mixed J J
          ⟨fP J J,
          ⟨fP J J,
          ⟨ff 290 1 J J (mt J),
          ⟨tt 3 291 2 J J J (dX J J J J (fun Y=>oq jv ep J J)),
          ⟨km 292 3 291 2 J J J (dX J J J J (fun Y=>ej ur J J (bl J Y))),
          ⟨km 293 4 291 2 J J J (dX J J J J (fun Y=>eS rz (bl J Y))),
          ⟨km 294 5 291 2 J J J (dX J J J J (fun Y=>eY (bl J Y) hI)),
          ⟨ga 291 2 295 6 J J J (PR J J),
          ⟨ff 296 7 J J (mt J),
          ⟨tt 3 297 8 J J J (dX J J J J (fun Y=>oq qu jG J J)),
          ⟨km 298 9 297 8 J J J (dX J J J J (fun Y=>ej bB J J (bl J Y))),
          ⟨km 299 10 297 8 J J J (dX J J J J (fun Y=>dB (bl J Y) hI)),
          ⟨ga 297 8 300 11 J J J (PR J J),
          ⟨ff 301 12 J J (mt J),
          ⟨tt 3 302 13 J J J (dX J J J J (fun Y=>oq qu jG J J)),
          ⟨km 303 14 302 13 J J J (dX J J J J (fun Y=>ej bB J J (bl J Y))),
          ⟨km 304 15 302 13 J J J (dX J J J J (fun Y=>eY (bl J Y) hI)),
          ⟨ga 302 13 305 16 J J J (PR J J),
          ⟨ff 289 0 J J (DX J),
          ⟨ff 306 17 J J (DX J),
          aZ⟩⟩⟩⟩⟩⟩⟩⟩⟩⟩⟩⟩⟩⟩⟩⟩⟩⟩⟩⟩ ?_
         exact au<|pd<|so h▸cg J J J

def RU: ∀(fu:Nat) (l:dZ) (at1:Int) {R:(List Int)×Bool} (h:gr fu l at1=some R),cX bd 135 [tD lP l,bH at1] (tT [jK R.1,fM R.2]):=by
 intro fu
 induction fu with
 |zero=>intro l at1 R h;exact(nn h).elim
 |succ fu ih=>
  intro l at1 R h
  refine dK Tryz.func135 J<|d<|dl J<|fO bV<|bm<|bu<|aS<|dH FP J<|Q J<|eE h NT (UG _ _) (cy J) fun r h=>bp J<|Q J<|bR h fun t q_t h=>aD J (bv pb m8 J J)<|aD J (bq qe J J)<|aD J (bX J) ?_
  obtain⟨e,h1t,h0t⟩:=og q_t
  have q_eg:=fun H=>(h1t H).1
  refine aD J (fun Y=>fJ j4 dA J (bl J Y) (bl J Y) (q_eg Y))<|aD J (bq dA J J) ?_
  obtain⟨r1,h1t⟩:=og2 (fun H=>(h1t H).2)
  have q_r1g:=fun H=>(h1t H).1
  refine aD J (fun Y=>cD NV (DC _ (q_r1g Y)) ⟨(bl J Y),aZ⟩)<|aD J (uo J)<|s (jl (D J) (fun H=>(bl J (sb H))) (fun H=>(h1t H).2) h0t)<|bW h J (fun h=>?_) (fun h=>?_)
  ·exact d<|fO bV<|bm<|bM<|af<|so h▸cg J J J
  ·refine fN<|d<|aQ pb m8 qe J<|Q J<|bR h fun e1 q_e1 h=>dg j4 dA J q_e1<|bz dA ie J fun b=>bO dA aB J<|bj 6 J<|bu<|d<|fO bV<|fO bV<|bu ?_;refine d5 (aa:=fun a1=>lT (gr fu) l at1 e1 a1=some R) (Of:=fun a1=>[]) (Gf:=fun a1=>[(1,bH at1),(2,ck lP l),(6,ck aM e1),(7,jK a1),(8,jK ([]))]) (fun a1 h=>?_) (fun h2=>?_)
   ·skip
    refine d5 (aa:=fun b1=>ku l at1 e1 a1 b1=some R) (Of:=fun b1=>[]) (Gf:=fun b1=>[(1,bH at1),(2,ck lP l),(6,ck aM e1),(7,jK a1),(8,jK b1)]) (fun b1 h=>?_) (fun K1=>?_)
    ·skip
     refine d<|dH dA J<|Q J<|Q J<|eE h aa7 (UF _ _ _) (cy J) fun r2 h=>Q J<|dz J J<|dz J J<|d6 J<|aN J<|aS<|aQ ft cB bB J<|bp J<|Q J<|ae J (bX J)<|ae J (bv pb m8 J J)<|ae J (bq qe J J) ?_;refine ae J (gp j4 J)<|ae J (fun Y=>dP (bl J Y) hI)<|ae J (fun Y=>du (bl J Y) (bl J Y))<|cm J<|Q J<|aD J (bX J)<|aD J (gp df J)<|aD J (fun Y=>dD (bl J Y) hI)<|dG J<|bW h J (fun h=>?_) (fun h=>?_)
     ·exact d<|fO bV<|bm<|bM<|af<|so h▸cg J J J
     ·exact fN<|ax J<|Q J<|d6 J<|bf J<|so h▸cg J J J
    ·skip
     refine d<|aQ kz hE bB J<|s (dB (D J) hI)<|bW h J (fun h=>?_) (fun h=>?_)
     ·refine d<|dH FP J<|aQ kz hE bB J<|eE h Sl (ih _ _) (cy J) fun r3 h=>Q J<|dz J J<|dz J J<|d6 J<|aN J<|aS<|Q J<|s (fG (D J))<|bW h J (fun h=>?_) (fun h=>?_)
      ·exact d<|fO bV<|bm<|bM<|af<|af<|so h▸cg J J J
      ·refine fN<|aj<|Q J<|d6 J<|aJ ?_;exact bE (K1 r3.1 h) (aX J)
     ·refine bc ?_;exact bE (K1 ([]) h) (aX J)
   ·skip
    refine d<|aQ jw fS bB J<|s (dB (D J) hI)<|bW h J (fun h=>?_) (fun h=>?_)
    ·refine d<|dH FP J<|aQ jw fS bB J<|eE h Sl (ih _ _) (cy J) fun r4 h=>Q J<|dz J J<|dz J J<|d6 J<|aN J<|aS<|Q J<|s (fG (D J))<|bW h J (fun h=>?_) (fun h=>?_)
     ·exact d<|fO bV<|bm<|bM<|af<|af<|so h▸cg J J J
     ·refine fN<|aj<|Q J<|d6 J<|aJ ?_;exact bE (h2 r4.1 h) (aX J)
    ·refine bc ?_;exact bE (h2 ([]) h) (aX J)
def UQ l at1{R}(h:nT l at1=some R):cX bd 135 [tD lP l,bH at1] (tT [jK R.1,fM R.2]):=RU dk l at1 h

end Go.Proofs.YtdohlidddcgfjaaGreat

