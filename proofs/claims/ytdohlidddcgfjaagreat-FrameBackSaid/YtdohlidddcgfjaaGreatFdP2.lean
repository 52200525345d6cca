/- bT of this claim: P2. -/
import Derived.Test.YtdohlidddcgfjaaGreatFdT
import Derived.Test.YtdohlidddcgfjaaGreatFdP1
set_option linter.all false
namespace Go.Proofs.YtdohlidddcgfjaaGreat
open Go
set_option maxRecDepth 100000

def SJ n{R}(h:mg n=some R):jy aY 232 [Z (.slice none 0 0),bC n] false bP 3 R:=by
 refine jy.of Tryz.func232 J J J fun w0 S0=>a8<|cS false bP 3<|s (cg w3)<|br ?_;refine QC (tV:=mX n=some R) (Of:=[]) (Gf:=[(0,Z (.slice none 0 0)),(1,bC n)]) (fun h=>?_) (fun hb=>?_)
 ·skip
  refine Hn (tV:=fun ae l c=>mW ae=some R) (Of:=fun ae l c=>[dk bP 3 l c ae]) (Gf:=fun ae l c=>[(0,rL l c ae)]) (fun ae l c h=>?_) (fun K1=>?_)
  ·skip
   exact aB J<|bq J<|so h▸m6 J J
  ·skip
   refine aB J<|aS J<|s (GK fx (D J))<|aS J<|s (GJ fx (D J))<|s (iI (D J) (D J))<|s (iI (D J) (D J))<|aZ J<|aB J<|s (ge (D J) hI)<|cZ h J (fun h=>?_) (fun h=>?_)
   ·refine aw<|aS J<|aS J<|s (GK fx (D J))<|s (J4 fx b9 (D J) (D J))<|aS J<|bM h fun u q_u h=>bM h fun mk q_mk h=>aL (KN (r:=bP) (x:=(0:Int)) b9 J J J J fx lr (fun _=>J) (D J) (D J) (Sq q_u) q_mk) J fun i=>aS J<|s (GJ fx (D J))<|bM h fun y q_y h=>s (om fx b9 J (.head _) (D J) (D J) q_y)<|Fg q_y<|hE J<|aX ?_;exact bZ (K1 y (i.h 0).1 (i.h 0).2 h) (bo J)
   ·refine bE<|Tz false bP 3 ?_;exact bZ (K1 ss none 0 h) (bo J)
 ·skip
  refine aB J<|s (iZ (D J) hI)<|cZ h J (fun h=>?_) (fun h=>?_)
  ·refine aw ?_;exact(nn h).elim
  ·refine bE<|ba ?_;exact bZ (hb h) (bo J)
def SM slices{R}(h:ji slices=some R):jy aY 204 [d8 (po) slices] false bP 3 R:=by
 refine jy.of Tryz.func204 J J J fun w0 S0=>a8<|cS false bP 3<|s (cg w3)<|br<|a8<|cM<|br<|bm<|aS J<|cw CX J<|s (bQ hI)<|br<|aA<|bt (k:=9) J fun hN=>bN<|sO ?_;refine aV (yj (tV:=fun ls i size=>(slices.drop i=ls)/\jB slices ls size=some R) (Of:=fun _ i size=>[]) (Gf:=fun _ i size=>[(0,d8 (po) slices),(3,bC size),(9,d8 (po) slices),(10,nz slices),(11,bC (i:Int))]) (fun i size h=>?_) (fun e tl ih i size h=>?_) slices 0 (0:Int) ⟨J,h⟩) (bo J)
 ·obtain⟨V,h⟩:=h
  refine fm V J<|aG<|aB J<|u6 h aaX (SJ _) ⟨hV,(D J),aM⟩ fun r h l c=>aZ J<|bm ?_;refine aS J<|cw CX J<|s (bQ hI)<|br<|aA<|bt (k:=25) J fun hN1=>bN ?_;refine aV (ni (tV:=fun ls1 i1 newslice l1 c1=>(slices.drop i1=ls1)/\jA ls1 newslice=some R) (Of:=fun _ i1 newslice l1 c1=>[dk bP 3 l1 c1 newslice]) (Gf:=fun _ i1 newslice l1 c1=>[(6,rL l1 c1 newslice),(25,d8 (po) slices),(26,nz slices),(27,bC (i1:Int))]) (fun i1 newslice l1 c1 h=>?_) (fun e1 tl1 ih1 i1 newslice l1 c1 h=>?_) slices 0 r l c ⟨J,h⟩) (bo J)
  ·obtain⟨hx1,h⟩:=h
   exact fm hx1 J<|aG<|aB J<|bq J<|so h▸m6 J J
  ·obtain⟨hx1,h⟩:=h
   refine fj hx1 J<|aT<|aA<|a8<|fQ CX c0 J (eF hx1)<|aZ J<|aw<|aS J<|aS J<|bM h fun newslice1 q_newslice1 h=>dl b9 J J J J fx J J (D J) (D J) q_newslice1 fun l2 c2=>?_;refine hE J<|aX<|dW hx1 hN1 J ?_;exact bj (aV (ih1 (i1+1) newslice1 l2 c2 ⟨dQ hx1,h⟩) (bo J))
 ·obtain⟨V,h⟩:=h
  refine fj V J<|aT<|aA<|a8<|fQ CX c0 J (eF V)<|aZ J<|aB J<|aS J<|cw fx J ?_;refine s (fS (D J) (D J))<|aZ J<|aB J<|s (iZ (D J) hI)<|cZ h J (fun h=>?_) (fun h=>?_)
  ·refine aw ?_;exact(nn h).elim
  ·refine bE<|dW V hN J ?_;exact bj (aV (ih (i+1) (IntKind.i64.wrap (size+(e.length:Int))) ⟨dQ V,h⟩) (bo J))
def U8 slices{R}(h:ji slices=some R):dJ aY 204 [d8 (po) slices] (pi R):=(SM _ h).spec

def Oq tag{R}(h:rr tag=some R):dJ aY 254 [bC tag] (bC R):=by
 refine eX Tryz.func254 J<|a8<|cM<|br<|aT<|aA<|aB J<|bW J<|aS J<|bz J (du J)<|bz J (mw J)<|jW J<|aZ J<|jz h J (fun h=>?_) (fun h=>?_)
 ·exact a8<|gQ<|ei<|so h▸aN J J
 ·refine aB J<|s (iJ (D J) hI)<|aS J<|ai J (du J)<|ai J (fun H=>g9 (bL J H) hI)<|c8 J<|aZ J<|jz h J (fun h=>?_) (fun h=>?_)
  ·exact a8<|gQ<|ei<|so h▸aN J J
  ·refine aB J<|s (iJ (D J) hI)<|aS J<|ai J (du J)<|ai J (fun H=>g9 (bL J H) hI)<|c8 J<|aZ J<|jz h J (fun h=>?_) (fun h=>?_)
   ·exact a8<|gQ<|ei<|so h▸aN J J
   ·exact bE<|aF<|aG<|a8<|gQ<|so h▸aN J J

def UW v{R}(h:xh v=some R):dJ aY 239 [tD be v] (tD be R):=by
 refine eX Tryz.func239 J<|a8<|uE (D J) J fun b=>bw dd mu J fun b1=>br<|bm<|aW 0 qP J<|s (aE b9 J J ox (.tail _ (.head _)) (D J))<|br ?_;refine Hr (tV:=fun v1=>kW v1=some R) (Of:=fun v1=>[Q be 104 b v1,Q be 104 b1 ig]) (Gf:=fun v1=>[(1,Z (M b 0)),(2,Z (M b1 0))]) (fun v1 h=>?_) (fun hb=>?_)
 ·skip
  exact aG<|a8<|s (aE dd J J bp (.head _) (D J))<|cL<|bv dd ax J<|bf 2 J<|bS<|ba<|so h▸Lk J dd J J J
 ·skip
  refine aT<|aA<|aT<|aA<|aT ?_;refine Hr (tV:=fun v2=>qw v2=some R) (Of:=fun v2=>[Q be 104 b v2,Q be 104 b1 ig]) (Gf:=fun v2=>[(1,Z (M b 0)),(2,Z (M b1 0))]) (fun v2 h=>?_) (fun K1=>?_)
  ·skip
   refine aG<|a8<|aW 0 qP J<|ed b9 J vO J (D J) hI<|br<|dB<|bO J<|aq<|bO J<|aq<|bV ?_;exact bZ (hb (am.mk (0:Int) v2.N v2.U v2.S) h) (bo J)
  ·skip
   refine aT ?_;refine QH (tV:=qv v=some R) (Of:=[Q be 104 b v,Q be 104 b1 ig]) (Gf:=[(1,Z (M b 0)),(2,Z (M b1 0))]) (fun h=>?_) (fun K2=>?_)
   ·skip
    refine aG<|aw<|aW 1 rJ J<|ed Rh J tf J (D J) hI<|aX<|aF ?_;exact bZ (K1 (am.mk v.Kind (0:Int) v.U v.S) h) (bo J)
   ·skip
    refine aT<|aA<|aT<|bm<|bW J<|aZ J<|jz h J (fun h=>?_) (fun h=>?_)
    ·refine dB<|aq<|aq<|bV<|aG<|a8<|aW 1 rJ J<|s (aE Rh J J rp (.tail _ (.head _)) (D J))<|nW J<|aS J<|ai J (fun H=>oK 1 rJ J J J)<|ai J (fun H=>aE Rh J J rp (.tail _ (.head _)) (bL J H))<|ai J (Cx J)<|c8 J<|cZ h J (fun h=>?_) (fun h=>?_)
     ·refine dB<|bO J<|aq<|bO J<|aq<|bO J<|aq<|bO J<|aq<|bV<|ah ?_;exact bZ (hb v h) (bo J)
     ·refine bE<|aF<|ah ?_;exact bZ (K2 h) (bo J)
    ·refine jg<|bm<|bW J<|aZ J<|jz h J (fun h=>?_) (fun h=>?_)
     ·refine dB<|aq<|aq<|bO J<|aq<|bV<|ah ?_;exact bZ (K2 h) (bo J)
     ·refine jg<|bm<|bW J<|aZ J<|jz h J (fun h=>?_) (fun h=>?_)
      ·refine dB<|aq<|aq<|bO J<|aq<|bO J<|aq<|bV<|ah ?_;exact bZ (K1 v h) (bo J)
      ·refine jg<|bm<|bW J<|aZ J<|jz h J (fun h=>?_) (fun h=>?_)
       ·refine dB<|aq<|aq<|bO J<|aq<|bO J<|aq<|bO J<|aq<|bV<|aG ?_;refine iV (tV:=fun v3=>qu v3=some R) (Of:=fun v3=>[Q be 104 b v3,Q be 104 b1 ig]) (Gf:=fun v3=>[(1,Z (M b 0)),(2,Z (M b1 0))]) (fun v3 h=>?_) (fun K3=>?_)
        ·skip
         refine dB<|bO J<|aq<|bV ?_;exact bZ (hb v3 h) (bo J)
        ·skip
         refine a8<|aW 3 wq J<|s (aE V1 J J ro (.tail _ (.head _)) (D J))<|s (Dk Fx (D J))<|s (g9 (D J) hI)<|cZ h J (fun h=>?_) (fun h=>?_)
         ·refine aw<|aW 0 qP J<|cL<|ed b9 J vO J (D J) hI<|aW 3 wq J<|ed V1 J D6 J (D J) hS<|aX ?_;exact bZ (K3 (am.mk (0:Int) v.N v.U ([])) h) (bo J)
         ·refine bE<|ah ?_;exact bZ (K3 v h) (bo J)
       ·refine jg<|a8<|bW J<|aZ J<|jz h J (fun h=>?_) (fun h=>?_)
        ·refine dB<|aq<|bO J<|aq<|bO J<|aq<|bO J<|aq<|bO J<|aq<|bV<|aG<|a8<|aW 0 qP J<|cL<|ed b9 J vO J (D J) hI<|aW 1 rJ J<|ed Rh J tf J (D J) hI<|aW 2 IA J<|ed pt J D7 J (D J) hI<|br<|dB ?_;refine bV ?_;exact bZ (hb (am.mk (0:Int) (0:Int) (0:Int) v.S) h) (bo J)
        ·refine jg<|dB<|bO J<|aq<|bO J<|aq<|bO J<|aq<|bO J<|aq<|bO J<|aq<|bV<|ah ?_;exact bZ (hb v h) (bo J)

def sK v{R}(h:ii v=some R):dJ aY 210 [tD be v] (bC R):=by
 refine eX Tryz.func210 J<|a8<|eZ J<|cM<|br<|bm<|fi dd J<|iw h aaR (UW _) (ea J) fun r h=>s (ez dd Su mu J)<|s (yC Oy (D J) (D J))<|cZ h J (fun h=>?_) (fun h=>?_)
 ·exact a8<|gQ<|av<|so h▸aN J J
 ·exact jg<|a8<|gQ<|so h▸aN J J

def UN v{R}(h:ub v=some R):dJ aY 265 [tD be v] (gI R):=by
 exact eX Tryz.func265 J<|a8<|eZ J<|bA<|br<|a8<|fi dd J<|iw h Bl (sK _) (ea J) fun r h=>bW J<|aS J<|ai J (cj qP ox J J)<|ai J (ce b9 J J)<|ai J (Cx J)<|c8 J<|bq J<|so h▸aN J J

def UP n{R}(h:uA n=some R):dJ aY 260 [tD bD n] (gI R):=by
 refine eX Tryz.func260 J<|a8<|eZ J<|bA<|br<|bm<|bG mn gu b9 J<|br<|aA<|a8<|bW J<|aZ J<|jz h J (fun h=>?_) (fun h=>?_)
 ·exact a8<|bG wp pV dd J<|iw h aaD (UN _) (ea J) fun r h=>aS J<|ai J (cj uy oC J J)<|ai J (ce b9 J J)<|ai J (mw J)<|c8 J<|bq J<|ei<|so h▸aN J J
 ·refine a8<|bW J<|aZ J<|jz h J (fun h=>?_) (fun h=>?_)
  ·exact a8<|bG wp pV dd J<|s (ez dd Su mu J)<|s (Ii Oy (D J) (D J))<|aS J<|ai J (cj uy oC J J)<|ai J (ce b9 J J)<|ai J (fun H=>iJ (bL J H) hI)<|c8 J<|aS J<|ai J (cj uy oC J J)<|ai J (ce b9 J J)<|ai J (fun H=>iZ (bL J H) hI)<|c8 J<|bq J<|ei<|so h▸aN J J
  ·exact bE<|aF<|aG<|a8<|bG wp pV dd J<|s (ez dd Su mu J)<|s (Ii Oy (D J) (D J))<|aS J<|ai J (cj uy oC J J)<|ai J (ce b9 J J)<|ai J (mw J)<|c8 J<|bq J<|so h▸aN J J

def US e{R}(h:xZ e=some R):dJ aY 250 [tD cU e] (tT [pi R.1,gI R.2]):=by
 refine eX Tryz.func250 J<|a8<|eZ J<|jh bP<|bA<|br<|a8<|cS false bP 3<|s (cg w3)<|cS false bP 3<|s (cg w3)<|br<|bm<|bG rq kS BG J<|cw sq J<|s (bQ hI)<|aX ?_;refine aG<|aA<|bt (k:=15) J fun hN=>bN<|gE ?_;refine aV (Fl (tV:=fun ls i all l c open1 l1 c1=>(e.Nodes.drop i=ls)/\lj ls i all open1=some R) (Of:=fun _ i all l c open1 l1 c1=>[dk bP 3 l c all,dk bP 3 l1 c1 open1]) (Gf:=fun _ i all l c open1 l1 c1=>[(4,rL l c all),(5,rL l1 c1 open1),(15,d8 (bD) e.Nodes),(16,nz e.Nodes),(17,bC (i:Int))]) (fun i all l c open1 l1 c1 h=>?_) (fun e1 tl ih i all l c open1 l1 c1 h=>?_) e.Nodes 0 ss none 0 ss none 0 ⟨J,h⟩) (bo J)
 ·obtain⟨V,h⟩:=h
  refine fm V J<|aG<|aB J<|aS J<|s (ja fx (.tail _ (.head _)) (D J))<|bW J<|aS J<|ai J (du J)<|ai J (fun H=>ja fx (.head _) (bL J H))<|ai J (fun H=>g9 (bL J H) hI)<|c8 J ?_;exact hE J<|bq J<|dm<|bB 4 J<|bB 84 J<|bB 2 J<|eY 2 J<|ba<|ba<|so h▸fH J J J
 ·obtain⟨V,h⟩:=h
  refine fj V J<|aT<|aA<|aB J<|fQ sq jx J (eF V)<|bw jx rO J fun b=>hE J<|bv jx ax J<|bf 7 J<|br<|aT ?_;refine aw<|bG mn gu b9 J<|iw h Wl (Oq _) (ea J) fun r h=>aZ J<|bm<|aS J<|s (iZ (D J) hI)<|aS J<|bz J (du J)<|bz J (du J)<|bz J (fun H=>ja fx (.tail _ (.head _)) (bL J H))<|bz J (fun H=>ge (bL J H) (bL J H))<|jW J<|aS J<|bM h fun t q_t h=>bz J (fun H=>BA jx J J) ?_
  obtain⟨r1,h1t,h0t⟩:=og q_t
  have q_r1g:=fun K=>(h1t K).1
  refine bz J (fun H=>db aaF (UP _ (q_r1g H)) ⟨(bL J H),aM⟩)<|bz J (y0 J)<|s (m0 (D J) (fun K=>(bL J (vT K))) (fun K=>(h1t K).2) h0t)<|cZ h J (fun h=>?_) (fun h=>?_)
  ·exact a8<|jh bP<|bA<|bS<|av<|ei<|av<|ei<|ba<|ba<|so h▸fH J J J
  ·refine jg<|aB J<|aS J<|s (ja fx (.tail _ (.head _)) (D J))<|aS J<|s (iI (D J) (D J))<|bM h fun y q_y h=>s (qd fx b9 J (.tail _ (.head _)) (D J) (D J) q_y)<|qT (.tail _ (.head _)) q_y fun hv=>aZ J<|a8<|s (sS (r:=bP) (ys:=[C0,C0]) (xs:=[.const (.int .i64 (-1)),.const (.int .i64 (-1))]) DG b9 J y4 J J ⟨hI,hI,aM⟩)<|bw (r:=(nF bP 2)) (x:=(List.replicate 2 (0:Int))) y4 (fun _=>Bp (r:=bP) 2 (fun _=>J) _) J fun b1=>bv y4 ax J<|br<|a8 ?_;refine aS J<|aZ J<|bm<|aS J<|s (NY fx (.tail _ (.tail _ (.head _))) q_y (D J))<|s (bQ hI)<|br<|aA ?_
   have hN1:=hv.2
   refine bN<|mP<|mP ?_;refine aV (Fm (tV:=fun ls1 i1 first at1=>(y.drop i1=ls1)/\mL (lj tl) i e1 all open1 r ls1 i1 first at1=some R) (Of:=fun _ i1 first at1=>[dk bP 3 l c all,dk bP 3 l1 c1 open1,Q (nF bP 2) 209 b1 at1]) (Gf:=fun _ i1 first at1=>[(4,rL l c all),(5,rL l1 c1 open1),(6,bC (i:Int)),(7,df bD e1),(8,bC r),(10,Z (M b1 0)),(11,bC first),(15,d8 (bD) e.Nodes),(16,nz e.Nodes),(17,bC (i:Int)),(46,Z (nE 1 l1 c1 (IntKind.i64.wrap ((open1.length:Int)-r)).toNat y.length)),(47,nz y),(48,bC (i1:Int))]) (fun i1 first at1 h=>?_) (fun e2 tl1 ih1 i1 first at1 h=>?_) y 0 (i:Int) ([C0,C0]) ⟨J,h⟩) (bo J)
   ·obtain⟨hx1,h⟩:=h
    refine fm hx1 J<|aG<|bm<|s (aE y4 J J bp (.tail _ (.tail _ (.head _))) (D J))<|bG Ds ES b9 J<|bG Dr ER b9 J<|s (sS (r:=bP) (ys:=[e1.L,e1.R]) (xs:=[.tmp 65,.tmp 67]) DG b9 J y4 J J ⟨(D J),(D J),aM⟩)<|s (yC Wi (D J) (D J))<|aX ?_;refine aG<|jz h J (fun h=>?_) (fun h=>?_)
    ·exact a8<|jh bP<|bA<|bS<|av<|ei<|av<|ei<|ba<|ba<|ba<|so h▸fH J J J
    ·refine jg<|aB J<|aS J<|s (bc (r:=bP) (ys:=[first]) (xs:=[.tmp 71]) fx b9 J J J J J ⟨(D J),aM⟩)<|bM h fun all1 q_all1 h=>dl b9 J J J J fx J J (D J) (D J) q_all1 fun l2 c2=>aZ J<|aw<|aS J<|aS J<|s (ja fx (.tail _ (.head _)) (D J))<|aS J<|s (iI (D J) (D J))<|bM h fun y1 q_y1 h=>s (om fx b9 J (.tail _ (.head _)) (D J) (D J) q_y1)<|aS J<|s (bc (r:=bP) (ys:=[(i:Int)]) (xs:=[.tmp 80]) fx b9 J J J J J ⟨(D J),aM⟩)<|cL<|Fg q_y1 ?_;refine bM h fun open2 q_open2 h=>dl b9 J J J J fx J J (D J) (D J) q_open2 fun l3 c3=>hE J<|aX<|dW V hN J<|aH<|ba<|ah ?_;exact bj (aV (ih (i+1) all1 l2 c2 open2 l3 c3 ⟨dQ V,h⟩) (bo J))
   ·obtain⟨hx1,h⟩:=h
    refine fj hx1 J<|aT<|aA<|aB J<|s (zd fx b9 J (.tail _ (.head _)) q_y (D J) (D J) (eF hx1))<|s (nc (r:=bP) (i:=((IntKind.i64.wrap ((open1.length:Int)-r))+(i1:Int))) (foff:=0) b9 J J bp J (.tail _ (.head _)) (zA q_y (eF hx1)).1 (D J))<|hE J<|aZ J<|bM h fun e3 q_e3 h=>bM h fun e4 q_e4 h=>bM h fun ar q_ar h=>?_
    refine iT 10 [tc (bC (i1:Int)),tc (bC e2),tc (bC first),tc (rL l c all),tc (bC e2),tc (Z (z6 l (e2.toNat*1+0))),tc (bC e3),tc (bC (min first e3)),tc (Z (M b1 ((i1:Int).toNat*1))),tc (DZ)] [false,false,false,false,false,false,false,false,false,true] [fun _=>[dk bP 3 l c all,dk bP 3 l1 c1 open1,Q (nF bP 2) 209 b1 at1],fun sg=>[Q (nF bP 2) 209 b1 ar,dk bP 3 l c all,dk bP 3 l1 c1 open1]] J mixed J J J J J
     ⟨⟨[⟨12,fun _=>tD bP (i1:Int),none⟩],_,0,0,J,⟨(fun _=>J),aM⟩,J,J,J,J,J,fun _ sg _ _=>ac J (lQ J)⟩,
     ⟨⟨[⟨13,fun _=>tD bP e2,none⟩],_,0,0,J,⟨(fun _=>J),aM⟩,J,J,J,J,J,fun _ sg _ _=>ac J (lQ J)⟩,
     ⟨⟨[⟨11,fun _=>tD bP first,none⟩],_,0,1,J,⟨(fun _=>J),aM⟩,J,J,J,J,J,fun _ sg _ _=>ac J (lQ J)⟩,
     ⟨⟨[⟨4,fun _=>Z (au l c all.length),none⟩],_,0,1,J,⟨(fun _=>J),aM⟩,J,J,J,J,J,fun _ sg _ _=>ac J (lQ J)⟩,
     ⟨⟨[⟨13,fun _=>tD bP e2,none⟩],_,0,1,J,⟨(fun _=>J),aM⟩,J,J,J,J,J,fun _ sg _ _=>ac J (lQ J)⟩,
     ⟨⟨[⟨56,fun _=>Z (au l c all.length),some 3⟩,⟨57,fun _=>tD bP e2,some 4⟩],_,0,1,J,⟨(fun _=>J),(fun _=>J),aM⟩,J,J,J,J,J,C1 (fun sg=>ac J (iC fx b9 (.head _) (D J) (D J) q_e3)) (nD (fun sg=>ac J (iC fx b9 (.tail _ (.head _)) (D J) (D J) q_e3)))⟩,
     ⟨⟨[⟨58,fun _=>Z (z6 l (e2.toNat*1+0)),some 5⟩],_,0,1,J,⟨(fun _=>J),aM⟩,J,J,J,J,J,C1 (fun sg=>ac J (nc (r:=bP) (i:=e2) (foff:=0) b9 J J bp J (.head _) q_e3 (D J))) (nD (fun sg=>ac J (nc (r:=bP) (i:=e2) (foff:=0) b9 J J bp J (.tail _ (.head _)) q_e3 (D J))))⟩,
     ⟨⟨[⟨55,fun _=>tD bP first,some 2⟩,⟨59,fun _=>tD bP e3,some 6⟩],_,0,1,J,⟨(fun _=>J),(fun _=>J),aM⟩,J,J,J,J,J,fun _ sg _ _=>ac J (Ur (D J) (D J))⟩,
     ⟨⟨[⟨10,fun _=>Z (M b1 0),none⟩,⟨53,fun _=>tD bP (i1:Int),some 0⟩],_,0,0,J,⟨(fun _=>J),(fun _=>J),aM⟩,J,J,J,J,J,nD (fun sg=>ac J (jF DG b9 (.tail _ (.tail _ (.head _))) (D J) (D J) q_e4))⟩,
     ⟨⟨[⟨61,fun _=>Z (M b1 ((i1:Int).toNat*1)),some 8⟩,⟨54,fun _=>tD bP e2,some 1⟩],_,J,⟨(fun _=>J),(fun _=>J),aM⟩,J,J,J,fun sg=>bY J (EffOK.fr2 (MY b9 J q_e4 (so q_ar) (D J) (D J)))⟩,
     aM⟩⟩⟩⟩⟩⟩⟩⟩⟩⟩ (fun sg=>?_)
    refine(show RG _ _ _ _ [_,_,_] _ from ?_);refine hE J<|aX<|dW hx1 hN1 J<|aH<|aH ?_;exact bj (aV (ih1 (i1+1) (min first e3) ar ⟨dQ hx1,h⟩) (bo J))

def Ot e{R}(h:tG e=some R):dJ aY 233 [tD cU e] (bC R):=by
 refine eX Tryz.func233 J<|a8<|eZ J<|cM<|br<|bm<|fi kY J<|iw h aaM (US _) (ea J) fun r h=>aS J<|ek J J<|ek J J<|hE J<|aZ J<|aB J<|s (gG (D J)) ?_;refine cZ h J (fun h=>?_) (fun h=>?_)
 ·exact a8<|gQ<|av<|so h▸aN J J
 ·exact jg<|a8<|gQ<|so h▸aN J J

def X7(l:Option Nat)(c:Nat) ae{R}(h:ky ae=some R):bk aY 252 [rL l c ae] [dk bP 3 l c ae] (fun i:OI=>rL (i.h 0).1 (i.h 0).2 R) (fun i=>[dk bP 3 (i.h 0).1 (i.h 0).2 R]):=by
 refine bk.of Tryz.func252 J J J fun w0 S0=>a8<|cS false bP 3<|s (cg w3)<|br<|bm<|aS J<|s (ja fx (.tail _ (.head _)) (D J))<|s (iZ (D J) hI)<|cZ h J (fun h=>?_) (fun h=>?_)
 ·exact aB J<|bq J<|av<|ba<|so h▸bF J (oi l c) J J (fun _ _ h=>h)
 ·refine jg<|bm<|cM<|br<|aA<|Bx (.tail _ (.head _)) fun hN=>bN<|sO ?_;refine aV (fv (tV:=fun ls i=>(ae.drop i=ls)/\fy ae ls i=some R) (Of:=fun _ i=>[dk bP 3 l c ae]) (Gf:=fun _ i=>[(0,rL l c ae),(3,bC (i:Int))]) (fun i h=>?_) (fun e tl ih i h=>?_) (ae.drop (1)) 1 ⟨J,h⟩) (bo J)
  ·obtain⟨V,h⟩:=h
   exact eu<|bm<|aS J<|aS J<|s (ja fx (.head _) (D J))<|nX J<|br<|Bz (D J) (Wk V)<|dB<|aq<|aq<|bV<|aG<|aB J<|bq J<|so h▸bF J (oi l c) J J (fun _ _ h=>h)
  ·obtain⟨V,h⟩:=h
   refine eu<|bm<|aS J<|aS J<|s (ja fx (.head _) (D J))<|nX J<|br<|By (D J) (S8 V)<|jg<|aT<|aA<|aT<|bM h fun e1 q_e1 h=>?_
   refine kM (ts:=[_,_,_,_,_,_,_,_,_,_]) mixed J J
    ⟨iy J J,
    ⟨iy J J,
    ⟨kx 16 0 17 1 J J J (iC fx b9 (.head _) (D J) (D J) (eF V)),
    ⟨gk 18 2 J J (nc (r:=bP) (i:=(i:Int)) (foff:=0) b9 J J bp J (.head _) (eF V) (D J)),
    ⟨iy J J,
    ⟨iy J J,
    ⟨gk 21 5 J J (iI (D J) hI),
    ⟨kx 20 4 22 6 J J J (iC fx b9 (.head _) (D J) (D J) q_e1),
    ⟨gk 23 7 J J (nc (r:=bP) (i:=(IntKind.i64.wrap ((i:Int)-(1:Int)))) (foff:=0) b9 J J bp J (.head _) q_e1 (D J)),
    ⟨kx 19 3 24 8 J J J (d9 (D J) (D J)),
    aM⟩⟩⟩⟩⟩⟩⟩⟩⟩⟩ ?_
   refine aG<|jz h J (fun h=>?_) (fun h=>?_)
   ·refine aB J<|aS J<|bM h fun y q_y h=>s (qd fx b9 J (.head _) (D J) (D J) q_y)<|qT (.head _) q_y fun hv=>aZ J<|bm<|cM<|br<|aA<|bN ?_;refine aV (OW (tV:=fun k1 i1 s1 k=>(y.length-i1=k1)/\ej i y k1 i1 s1 k=some R) (Of:=fun _ i1 s1 k=>[dk bP 3 l c s1]) (Gf:=fun _ i1 s1 k=>[(0,rL l c s1),(3,bC k),(4,Z (nE 1 l c (i:Int).toNat y.length)),(5,bC (i1:Int))]) (fun i1 s1 k h=>?_) (fun k2 ih1 i1 s1 k h=>?_) (y.length-1) 1 ae (i:Int) ⟨J,h⟩) (bo J)
    ·obtain⟨hx1,h⟩:=h
     refine eu<|bm<|aS J<|aS J<|s (NX fx hv.1 (D J))<|nX J<|br<|Bz (D J) (ZU hx1)<|dB<|aq<|aq<|bV<|aG<|aB J<|aS J<|bM h fun y1 q_y1 h=>s (qd fx b9 J (.head _) (D J) (D J) q_y1)<|qT (.head _) q_y1 fun hv1=>bM h fun cl q_cl h=>?_;exact Qw b9 J J fx (fun _=>J) J q_y1 (D J) (so q_cl)<|sZ (Hc q_y1 (so q_cl)) 0 J<|sZ (Hc q_y1 (so q_cl)) 54 J<|br<|aB J<|aS J<|bM h fun y2 q_y2 h=>s (om fx b9 J (.head _) (D J) (D J) q_y2)<|Fg q_y2<|bq J<|ei<|av<|ei<|so h▸bF J (oi l c) J J (fun _ _ h=>h)
    ·obtain⟨hx1,h⟩:=h
     refine eu<|bm<|aS J<|aS J<|s (NX fx hv.1 (D J))<|nX J<|br<|By (D J) (ZT hx1)<|jg<|aT<|aA<|aT<|bM h fun e3 q_e3 h=>bM h fun e4 q_e4 h=>?_
     refine kM (ts:=[_,_,_,_,_,_,_,_,_,_]) mixed J J
      ⟨iy J J,
      ⟨iy J J,
      ⟨kx 35 0 36 1 J J J (uP fx b9 J (.head _) (BM q_y) (D J) (D J) q_e3),
      ⟨gk 37 2 J J (nc (r:=bP) (i:=((i:Int)+(i1:Int))) (foff:=0) b9 J J bp J (.head _) (yH q_e3).2.2 (D J)),
      ⟨iy J J,
      ⟨iy J J,
      ⟨gk 40 5 J J (iI (D J) hI),
      ⟨kx 39 4 41 6 J J J (uP fx b9 J (.head _) (BM q_y) (D J) (D J) q_e4),
      ⟨gk 42 7 J J (nc (r:=bP) (i:=((i:Int)+(IntKind.i64.wrap ((i1:Int)-(1:Int))))) (foff:=0) b9 J J bp J (.head _) (yH q_e4).2.2 (D J)),
      ⟨kx 38 3 43 8 J J J (kD (D J) (D J)),
      aM⟩⟩⟩⟩⟩⟩⟩⟩⟩⟩ ?_
     refine aG<|jz h J (fun h=>?_) (fun h=>?_)
     ·refine aB J<|aS J<|aS J<|aS J<|bM h fun e5 q_e5 h=>s (uP fx b9 J (.head _) (BM q_y) (D J) (D J) q_e5)<|s (nc (r:=bP) (i:=((i:Int)+(i1:Int))) (foff:=0) b9 J J bp J (.head _) (yH q_e5).2.2 (D J))<|bM h fun e6 q_e6 h=>s (iC fx b9 (.head _) (D J) (D J) q_e6)<|bM h fun st q_st h=>Ch b9 J ax J q_e6 (so q_st) (D J) (D J)<|sZ (yq (so q_st)) 0 J<|sZ (yq (so q_st)) 45 J<|br<|aw<|aS J<|s (fS (D J) hI)<|hE J<|aX<|aF<|aG ?_;refine aw<|aS J<|s (Dl (Xy hx1 (ZX hv.2)) (D J) hI)<|hE J<|aX ?_;exact bj (aV (ih1 (i1+1) st (IntKind.i64.wrap (k+(1:Int))) ⟨Xx hx1,h⟩) (bo J))
     ·refine bE<|aF<|aG<|aw<|aS J<|s (Dl (Xy hx1 (ZX hv.2)) (D J) hI)<|hE J<|aX ?_;exact bj (aV (ih1 (i1+1) s1 k ⟨Xx hx1,h⟩) (bo J))
   ·refine bE<|Zj V hN J ?_;exact bj (aV (ih (i+1) ⟨dQ V,h⟩) (bo J))

end Go.Proofs.YtdohlidddcgfjaaGreat

