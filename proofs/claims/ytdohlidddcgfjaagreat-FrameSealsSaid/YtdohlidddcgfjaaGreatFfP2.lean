/- bS of this claim: P2. -/
import Derived.Test.YtdohlidddcgfjaaGreatFfT
import Derived.Test.YtdohlidddcgfjaaGreatFfP1
set_option linter.all false
namespace Go.Proofs.YtdohlidddcgfjaaGreat
open Go
set_option maxRecDepth 100000

def Ts n{R}(h:mo n=some R):jD aY 232 [Z (.slice none 0 0),bB n] false bP 3 R:=by
 refine jD.of Tryz.func232 J J J fun w0 S0=>bc<|cU false bP 3<|s (cg xj)<|br ?_;refine Rc (tV:=m8 n=some R) (Of:=[]) (Gf:=[(0,Z (.slice none 0 0)),(1,bB n)]) (fun h=>?_) (fun hg=>?_)
 ·skip
  refine HK (tV:=fun ae l c=>m7 ae=some R) (Of:=fun ae l c=>[dr bP 3 l c ae]) (Gf:=fun ae l c=>[(0,sa l c ae)]) (fun ae l c h=>?_) (fun K1=>?_)
  ·skip
   exact aB J<|bq J<|so h▸ni J J
  ·skip
   refine aB J<|aR J<|s (Hd fD (D J))<|aR J<|s (Hc fD (D J))<|s (iF (D J) (D J))<|s (iF (D J) (D J))<|a8 J<|aB J<|s (gm (D J) hI)<|c0 h J (fun h=>?_) (fun h=>?_)
   ·refine ax<|aR J<|aR J<|s (Hd fD (D J))<|s (KD fD b9 (D J) (D J))<|aR J<|bL h fun u q_u h=>bL h fun mk q_mk h=>aL (Lt (r:=bP) (x:=(0:Int)) b9 J J J J fD lz (fun _=>J) (D J) (D J) (Tb q_u) q_mk) J fun i=>aR J<|s (Hc fD (D J))<|bL h fun y q_y h=>s (oD fD b9 J (.head _) (D J) (D J) q_y)<|FC q_y<|ia J<|aX ?_;exact bZ (K1 y (i.h 0).1 (i.h 0).2 h) (bp J)
   ·refine bE<|Uk false bP 3 ?_;exact bZ (K1 rm none 0 h) (bp J)
 ·skip
  refine aB J<|s (jd (D J) hI)<|c0 h J (fun h=>?_) (fun h=>?_)
  ·refine ax ?_;exact(nn h).elim
  ·refine bE<|aZ ?_;exact bZ (hg h) (bp J)
def Tv slices{R}(h:jn slices=some R):jD aY 204 [eg (pJ) slices] false bP 3 R:=by
 refine jD.of Tryz.func204 J J J fun w0 S0=>bc<|cU false bP 3<|s (cg xj)<|br<|bc<|cO<|br<|bm<|aR J<|cr Dg J<|s (bR hI)<|br<|aA<|bt (k:=9) J fun hN=>bN<|ta ?_;refine aV (yA (tV:=fun ls i size=>(slices.drop i=ls)/\jG slices ls size=some R) (Of:=fun _ i size=>[]) (Gf:=fun _ i size=>[(0,eg (pJ) slices),(3,bB size),(9,eg (pJ) slices),(10,nL slices),(11,bB (i:Int))]) (fun i size h=>?_) (fun e tl ih i size h=>?_) slices 0 (0:Int) ⟨J,h⟩) (bp J)
 ·obtain⟨V,h⟩:=h
  refine fv V J<|aG<|aB J<|tE h abK (Ts _) ⟨hV,(D J),aM⟩ fun r h l c=>a8 J<|bm ?_;refine aR J<|cr Dg J<|s (bR hI)<|br<|aA<|bt (k:=25) J fun hN1=>bN ?_;refine aV (nu (tV:=fun ls1 i1 newslice l1 c1=>(slices.drop i1=ls1)/\jF ls1 newslice=some R) (Of:=fun _ i1 newslice l1 c1=>[dr bP 3 l1 c1 newslice]) (Gf:=fun _ i1 newslice l1 c1=>[(6,sa l1 c1 newslice),(25,eg (pJ) slices),(26,nL slices),(27,bB (i1:Int))]) (fun i1 newslice l1 c1 h=>?_) (fun e1 tl1 ih1 i1 newslice l1 c1 h=>?_) slices 0 r l c ⟨J,h⟩) (bp J)
  ·obtain⟨hx1,h⟩:=h
   exact fv hx1 J<|aG<|aB J<|bq J<|so h▸ni J J
  ·obtain⟨hx1,h⟩:=h
   refine ft hx1 J<|aU<|aA<|bc<|fV Dg dc J (eK hx1)<|a8 J<|ax<|aR J<|aR J<|bL h fun newslice1 q_newslice1 h=>cY b9 J J J J fD J J (D J) (D J) q_newslice1 fun l2 c2=>?_;refine ia J<|aX<|d6 hx1 hN1 J ?_;exact bj (aV (ih1 (i1+1) newslice1 l2 c2 ⟨dZ hx1,h⟩) (bp J))
 ·obtain⟨V,h⟩:=h
  refine ft V J<|aU<|aA<|bc<|fV Dg dc J (eK V)<|a8 J<|aB J<|aR J<|cr fD J ?_;refine s (fY (D J) (D J))<|a8 J<|aB J<|s (jd (D J) hI)<|c0 h J (fun h=>?_) (fun h=>?_)
  ·refine ax ?_;exact(nn h).elim
  ·refine bE<|d6 V hN J ?_;exact bj (aV (ih (i+1) (IntKind.i64.wrap (size+(e.length:Int))) ⟨dZ V,h⟩) (bp J))
def VV slices{R}(h:jn slices=some R):dR aY 204 [eg (pJ) slices] (pF R):=(Tv _ h).spec

def OZ tag{R}(h:rG tag=some R):dR aY 254 [bB tag] (bB R):=by
 refine fc Tryz.func254 J<|bc<|cO<|br<|aU<|aA<|aB J<|bU J<|aR J<|bD J (dy J)<|bD J (mD J)<|j5 J<|a8 J<|jE h J (fun h=>?_) (fun h=>?_)
 ·exact bc<|gZ<|eu<|so h▸aN J J
 ·refine aB J<|s (iN (D J) hI)<|aR J<|ai J (dy J)<|ai J (fun K=>hX (bM J K) hI)<|de J<|a8 J<|jE h J (fun h=>?_) (fun h=>?_)
  ·exact bc<|gZ<|eu<|so h▸aN J J
  ·refine aB J<|s (iN (D J) hI)<|aR J<|ai J (dy J)<|ai J (fun K=>hX (bM J K) hI)<|de J<|a8 J<|jE h J (fun h=>?_) (fun h=>?_)
   ·exact bc<|gZ<|eu<|so h▸aN J J
   ·exact bE<|aF<|aG<|bc<|gZ<|so h▸aN J J

def VI v{R}(h:xz v=some R):dR aY 239 [tD bg v] (tD bg R):=by
 refine fc Tryz.func239 J<|bc<|uU (D J) J fun b=>bv di mB J fun b1=>br<|bm<|aW 0 q6 J<|s (aE b9 J J oK (.tail _ (.head _)) (D J))<|br ?_;refine HP (tV:=fun v1=>la v1=some R) (Of:=fun v1=>[Q bg 104 b v1,Q bg 104 b1 ip]) (Gf:=fun v1=>[(1,Z (M b 0)),(2,Z (M b1 0))]) (fun v1 h=>?_) (fun hg=>?_)
 ·skip
  exact aG<|bc<|s (aE di J J bo (.head _) (D J))<|cN<|bw di aw J<|be 2 J<|bQ<|aZ<|so h▸LR J di J J J
 ·skip
  refine aU<|aA<|aU<|aA<|aU ?_;refine HP (tV:=fun v2=>qJ v2=some R) (Of:=fun v2=>[Q bg 104 b v2,Q bg 104 b1 ip]) (Gf:=fun v2=>[(1,Z (M b 0)),(2,Z (M b1 0))]) (fun v2 h=>?_) (fun K1=>?_)
  ·skip
   refine aG<|bc<|aW 0 q6 J<|ej b9 J we J (D J) hI<|br<|dG<|bO J<|aq<|bO J<|aq<|bW ?_;exact bZ (hg (am.mk (0:Int) v2.N v2.U v2.S) h) (bp J)
  ·skip
   refine aU ?_;refine Ri (tV:=qI v=some R) (Of:=[Q bg 104 b v,Q bg 104 b1 ip]) (Gf:=[(1,Z (M b 0)),(2,Z (M b1 0))]) (fun h=>?_) (fun K2=>?_)
   ·skip
    refine aG<|ax<|aW 1 rZ J<|ej RU J tJ J (D J) hI<|aX<|aF ?_;exact bZ (K1 (am.mk v.Kind (0:Int) v.U v.S) h) (bp J)
   ·skip
    refine aU<|aA<|aU<|bm<|bU J<|a8 J<|jE h J (fun h=>?_) (fun h=>?_)
    ·refine dG<|aq<|aq<|bW<|aG<|bc<|aW 1 rZ J<|s (aE RU J J rE (.tail _ (.head _)) (D J))<|nU J<|aR J<|ai J (fun K=>oZ 1 rZ J J J)<|ai J (fun K=>aE RU J J rE (.tail _ (.head _)) (bM J K))<|ai J (CS J)<|de J<|c0 h J (fun h=>?_) (fun h=>?_)
     ·refine dG<|bO J<|aq<|bO J<|aq<|bO J<|aq<|bO J<|aq<|bW<|ah ?_;exact bZ (hg v h) (bp J)
     ·refine bE<|aF<|ah ?_;exact bZ (K2 h) (bp J)
    ·refine jf<|bm<|bU J<|a8 J<|jE h J (fun h=>?_) (fun h=>?_)
     ·refine dG<|aq<|aq<|bO J<|aq<|bW<|ah ?_;exact bZ (K2 h) (bp J)
     ·refine jf<|bm<|bU J<|a8 J<|jE h J (fun h=>?_) (fun h=>?_)
      ·refine dG<|aq<|aq<|bO J<|aq<|bO J<|aq<|bW<|ah ?_;exact bZ (K1 v h) (bp J)
      ·refine jf<|bm<|bU J<|a8 J<|jE h J (fun h=>?_) (fun h=>?_)
       ·refine dG<|aq<|aq<|bO J<|aq<|bO J<|aq<|bO J<|aq<|bW<|aG ?_;refine i0 (tV:=fun v3=>qH v3=some R) (Of:=fun v3=>[Q bg 104 b v3,Q bg 104 b1 ip]) (Gf:=fun v3=>[(1,Z (M b 0)),(2,Z (M b1 0))]) (fun v3 h=>?_) (fun K3=>?_)
        ·skip
         refine dG<|bO J<|aq<|bW ?_;exact bZ (hg v3 h) (bp J)
        ·skip
         refine bc<|aW 3 wH J<|s (aE WM J J rD (.tail _ (.head _)) (D J))<|s (DC FS (D J))<|s (hX (D J) hI)<|c0 h J (fun h=>?_) (fun h=>?_)
         ·refine ax<|aW 0 q6 J<|cN<|ej b9 J we J (D J) hI<|aW 3 wH J<|ej WM J Et J (D J) hS<|aX ?_;exact bZ (K3 (am.mk (0:Int) v.N v.U ([])) h) (bp J)
         ·refine bE<|ah ?_;exact bZ (K3 v h) (bp J)
       ·refine jf<|bc<|bU J<|a8 J<|jE h J (fun h=>?_) (fun h=>?_)
        ·refine dG<|aq<|bO J<|aq<|bO J<|aq<|bO J<|aq<|bO J<|aq<|bW<|aG<|bc<|aW 0 q6 J<|cN<|ej b9 J we J (D J) hI<|aW 1 rZ J<|ej RU J tJ J (D J) hI<|aW 2 IX J<|ej pN J Eu J (D J) hI<|br<|dG ?_;refine bW ?_;exact bZ (hg (am.mk (0:Int) (0:Int) (0:Int) v.S) h) (bp J)
        ·refine jf<|dG<|bO J<|aq<|bO J<|aq<|bO J<|aq<|bO J<|aq<|bO J<|aq<|bW<|ah ?_;exact bZ (hg v h) (bp J)

def s6 v{R}(h:ir v=some R):dR aY 210 [tD bg v] (bB R):=by
 refine fc Tryz.func210 J<|bc<|fx J<|cO<|br<|bm<|fL di J<|iq h abE (VI _) (ez J) fun r h=>s (eG di Td mB J)<|s (yQ O7 (D J) (D J))<|c0 h J (fun h=>?_) (fun h=>?_)
 ·exact bc<|gZ<|au<|so h▸aN J J
 ·exact jf<|bc<|gZ<|so h▸aN J J

def Vy v{R}(h:uu v=some R):dR aY 265 [tD bg v] (gR R):=by
 exact fc Tryz.func265 J<|bc<|fx J<|bz<|br<|bc<|fL di J<|iq h BF (s6 _) (ez J) fun r h=>bU J<|aR J<|ai J (ci q6 oK J J)<|ai J (ce b9 J J)<|ai J (CS J)<|de J<|bq J<|so h▸aN J J

def VA n{R}(h:uP n=some R):dR aY 260 [tD bC n] (gR R):=by
 refine fc Tryz.func260 J<|bc<|fx J<|bz<|br<|bm<|bG mv gy b9 J<|br<|aA<|bc<|bU J<|a8 J<|jE h J (fun h=>?_) (fun h=>?_)
 ·exact bc<|bG wG qh di J<|iq h abq (Vy _) (ez J) fun r h=>aR J<|ai J (ci uN oP J J)<|ai J (ce b9 J J)<|ai J (mD J)<|de J<|bq J<|eu<|so h▸aN J J
 ·refine bc<|bU J<|a8 J<|jE h J (fun h=>?_) (fun h=>?_)
  ·exact bc<|bG wG qh di J<|s (eG di Td mB J)<|s (IG O7 (D J) (D J))<|aR J<|ai J (ci uN oP J J)<|ai J (ce b9 J J)<|ai J (fun K=>iN (bM J K) hI)<|de J<|aR J<|ai J (ci uN oP J J)<|ai J (ce b9 J J)<|ai J (fun K=>jd (bM J K) hI)<|de J<|bq J<|eu<|so h▸aN J J
  ·exact bE<|aF<|aG<|bc<|bG wG qh di J<|s (eG di Td mB J)<|s (IG O7 (D J) (D J))<|aR J<|ai J (ci uN oP J J)<|ai J (ce b9 J J)<|ai J (mD J)<|de J<|bq J<|so h▸aN J J

def VD e{R}(h:yp e=some R):dR aY 250 [tD cW e] (tT [pF R.1,gR R.2]):=by
 refine fc Tryz.func250 J<|bc<|fx J<|jm bP<|bz<|br<|bc<|cU false bP 3<|s (cg xj)<|cU false bP 3<|s (cg xj)<|br<|bm<|bG rF kY B2 J<|cr sK J<|s (bR hI)<|aX ?_;refine aG<|aA<|bt (k:=15) J fun hN=>bN<|gN ?_;refine aV (FH (tV:=fun ls i all l c open1 l1 c1=>(e.Nodes.drop i=ls)/\lq ls i all open1=some R) (Of:=fun _ i all l c open1 l1 c1=>[dr bP 3 l c all,dr bP 3 l1 c1 open1]) (Gf:=fun _ i all l c open1 l1 c1=>[(4,sa l c all),(5,sa l1 c1 open1),(15,eg (bC) e.Nodes),(16,nL e.Nodes),(17,bB (i:Int))]) (fun i all l c open1 l1 c1 h=>?_) (fun e1 tl ih i all l c open1 l1 c1 h=>?_) e.Nodes 0 rm none 0 rm none 0 ⟨J,h⟩) (bp J)
 ·obtain⟨V,h⟩:=h
  refine fv V J<|aG<|aB J<|aR J<|s (jg fD (.tail _ (.head _)) (D J))<|bU J<|aR J<|ai J (dy J)<|ai J (fun K=>jg fD (.head _) (bM J K))<|ai J (fun K=>hX (bM J K) hI)<|de J ?_;exact ia J<|bq J<|du<|bA 4 J<|bA 84 J<|bA 2 J<|fd 2 J<|aZ<|aZ<|so h▸fK J J J
 ·obtain⟨V,h⟩:=h
  refine ft V J<|aU<|aA<|aB J<|fV sK jC J (eK V)<|bv jC se J fun b=>ia J<|bw jC aw J<|be 7 J<|br<|aU ?_;refine ax<|bG mv gy b9 J<|iq h Xi (OZ _) (ez J) fun r h=>a8 J<|bm<|aR J<|s (jd (D J) hI)<|aR J<|bD J (dy J)<|bD J (dy J)<|bD J (fun K=>jg fD (.tail _ (.head _)) (bM J K))<|bD J (fun K=>gm (bM J K) (bM J K))<|j5 J<|aR J<|bL h fun t q_t h=>bD J (fun K=>Eb jC J J) ?_
  obtain⟨r1,h1t,h0t⟩:=og q_t
  have q_r1g:=fun H=>(h1t H).1
  refine bD J (fun K=>dz abs (VA _ (q_r1g K)) ⟨(bM J K),aM⟩)<|bD J (AO J)<|s (ru (D J) (fun H=>(bM J (zb H))) (fun H=>(h1t H).2) h0t)<|c0 h J (fun h=>?_) (fun h=>?_)
  ·exact bc<|jm bP<|bz<|bQ<|au<|eu<|au<|eu<|aZ<|aZ<|so h▸fK J J J
  ·refine jf<|aB J<|aR J<|s (jg fD (.tail _ (.head _)) (D J))<|aR J<|s (iF (D J) (D J))<|bL h fun y q_y h=>s (qt fD b9 J (.tail _ (.head _)) (D J) (D J) q_y)<|q8 (.tail _ (.head _)) q_y fun hv=>a8 J<|bc<|s (th (r:=bP) (ys:=[Di,Di]) (xs:=[.const (.int .i64 (-1)),.const (.int .i64 (-1))]) D5 b9 J zh J J ⟨hI,hI,aM⟩)<|bv (r:=(nQ bP 2)) (x:=(List.replicate 2 (0:Int))) zh (fun _=>BK (r:=bP) 2 (fun _=>J) _) J fun b1=>bw zh aw J<|br<|bc ?_;refine aR J<|a8 J<|bm<|aR J<|s (Oy fD (.tail _ (.tail _ (.head _))) q_y (D J))<|s (bR hI)<|br<|aA ?_
   have hN1:=hv.2
   refine bN<|mX<|mX ?_;refine aV (FI (tV:=fun ls1 i1 first at1=>(y.drop i1=ls1)/\mT (lq tl) i e1 all open1 r ls1 i1 first at1=some R) (Of:=fun _ i1 first at1=>[dr bP 3 l c all,dr bP 3 l1 c1 open1,Q (nQ bP 2) 209 b1 at1]) (Gf:=fun _ i1 first at1=>[(4,sa l c all),(5,sa l1 c1 open1),(6,bB (i:Int)),(7,dk bC e1),(8,bB r),(10,Z (M b1 0)),(11,bB first),(15,eg (bC) e.Nodes),(16,nL e.Nodes),(17,bB (i:Int)),(46,Z (nP 1 l1 c1 (IntKind.i64.wrap ((open1.length:Int)-r)).toNat y.length)),(47,nL y),(48,bB (i1:Int))]) (fun i1 first at1 h=>?_) (fun e2 tl1 ih1 i1 first at1 h=>?_) y 0 (i:Int) ([Di,Di]) ⟨J,h⟩) (bp J)
   ·obtain⟨hx1,h⟩:=h
    refine fv hx1 J<|aG<|bm<|s (aE zh J J bo (.tail _ (.tail _ (.head _))) (D J))<|bG DL Fc b9 J<|bG DK Fb b9 J<|s (th (r:=bP) (ys:=[e1.L,e1.R]) (xs:=[.tmp 65,.tmp 67]) D5 b9 J zh J J ⟨(D J),(D J),aM⟩)<|s (yQ Xf (D J) (D J))<|aX ?_;refine aG<|jE h J (fun h=>?_) (fun h=>?_)
    ·exact bc<|jm bP<|bz<|bQ<|au<|eu<|au<|eu<|aZ<|aZ<|aZ<|so h▸fK J J J
    ·refine jf<|aB J<|aR J<|s (ba (r:=bP) (ys:=[first]) (xs:=[.tmp 71]) fD b9 J J J J J ⟨(D J),aM⟩)<|bL h fun all1 q_all1 h=>cY b9 J J J J fD J J (D J) (D J) q_all1 fun l2 c2=>a8 J<|ax<|aR J<|aR J<|s (jg fD (.tail _ (.head _)) (D J))<|aR J<|s (iF (D J) (D J))<|bL h fun y1 q_y1 h=>s (oD fD b9 J (.tail _ (.head _)) (D J) (D J) q_y1)<|aR J<|s (ba (r:=bP) (ys:=[(i:Int)]) (xs:=[.tmp 80]) fD b9 J J J J J ⟨(D J),aM⟩)<|cN<|FC q_y1 ?_;refine bL h fun open2 q_open2 h=>cY b9 J J J J fD J J (D J) (D J) q_open2 fun l3 c3=>ia J<|aX<|d6 V hN J<|aH<|aZ<|ah ?_;exact bj (aV (ih (i+1) all1 l2 c2 open2 l3 c3 ⟨dZ V,h⟩) (bp J))
   ·obtain⟨hx1,h⟩:=h
    refine ft hx1 J<|aU<|aA<|aB J<|s (zt fD b9 J (.tail _ (.head _)) q_y (D J) (D J) (eK hx1))<|s (mN (r:=bP) (i:=((IntKind.i64.wrap ((open1.length:Int)-r))+(i1:Int))) (foff:=0) b9 J J bo J (.tail _ (.head _)) (zS q_y (eK hx1)).1 (D J))<|ia J<|a8 J<|bL h fun e3 q_e3 h=>bL h fun e4 q_e4 h=>bL h fun ar q_ar h=>?_
    refine iX 10 [tc (bB (i1:Int)),tc (bB e2),tc (bB first),tc (sa l c all),tc (bB e2),tc (Z (Ap l (e2.toNat*1+0))),tc (bB e3),tc (bB (min first e3)),tc (Z (M b1 ((i1:Int).toNat*1))),tc (Ek)] [false,false,false,false,false,false,false,false,false,true] [fun _=>[dr bP 3 l c all,dr bP 3 l1 c1 open1,Q (nQ bP 2) 209 b1 at1],fun sg=>[Q (nQ bP 2) 209 b1 ar,dr bP 3 l c all,dr bP 3 l1 c1 open1]] J mixed J J J J J
     ⟨⟨[⟨12,fun _=>tD bP (i1:Int),none⟩],_,0,0,J,⟨(fun _=>J),aM⟩,J,J,J,J,J,fun _ sg _ _=>ac J (mn J)⟩,
     ⟨⟨[⟨13,fun _=>tD bP e2,none⟩],_,0,0,J,⟨(fun _=>J),aM⟩,J,J,J,J,J,fun _ sg _ _=>ac J (mn J)⟩,
     ⟨⟨[⟨11,fun _=>tD bP first,none⟩],_,0,1,J,⟨(fun _=>J),aM⟩,J,J,J,J,J,fun _ sg _ _=>ac J (mn J)⟩,
     ⟨⟨[⟨4,fun _=>Z (av l c all.length),none⟩],_,0,1,J,⟨(fun _=>J),aM⟩,J,J,J,J,J,fun _ sg _ _=>ac J (mn J)⟩,
     ⟨⟨[⟨13,fun _=>tD bP e2,none⟩],_,0,1,J,⟨(fun _=>J),aM⟩,J,J,J,J,J,fun _ sg _ _=>ac J (mn J)⟩,
     ⟨⟨[⟨56,fun _=>Z (av l c all.length),some 3⟩,⟨57,fun _=>tD bP e2,some 4⟩],_,0,1,J,⟨(fun _=>J),(fun _=>J),aM⟩,J,J,J,J,J,Dj (fun sg=>ac J (gA fD b9 (.head _) (D J) (D J) q_e3)) (nO (fun sg=>ac J (gA fD b9 (.tail _ (.head _)) (D J) (D J) q_e3)))⟩,
     ⟨⟨[⟨58,fun _=>Z (Ap l (e2.toNat*1+0)),some 5⟩],_,0,1,J,⟨(fun _=>J),aM⟩,J,J,J,J,J,Dj (fun sg=>ac J (mN (r:=bP) (i:=e2) (foff:=0) b9 J J bo J (.head _) q_e3 (D J))) (nO (fun sg=>ac J (mN (r:=bP) (i:=e2) (foff:=0) b9 J J bo J (.tail _ (.head _)) q_e3 (D J))))⟩,
     ⟨⟨[⟨55,fun _=>tD bP first,some 2⟩,⟨59,fun _=>tD bP e3,some 6⟩],_,0,1,J,⟨(fun _=>J),(fun _=>J),aM⟩,J,J,J,J,J,fun _ sg _ _=>ac J (Vc (D J) (D J))⟩,
     ⟨⟨[⟨10,fun _=>Z (M b1 0),none⟩,⟨53,fun _=>tD bP (i1:Int),some 0⟩],_,0,0,J,⟨(fun _=>J),(fun _=>J),aM⟩,J,J,J,J,J,nO (fun sg=>ac J (jK D5 b9 (.tail _ (.tail _ (.head _))) (D J) (D J) q_e4))⟩,
     ⟨⟨[⟨61,fun _=>Z (M b1 ((i1:Int).toNat*1)),some 8⟩,⟨54,fun _=>tD bP e2,some 1⟩],_,J,⟨(fun _=>J),(fun _=>J),aM⟩,J,J,J,fun sg=>bY J (EffOK.fr2 (Nw b9 J q_e4 (so q_ar) (D J) (D J)))⟩,
     aM⟩⟩⟩⟩⟩⟩⟩⟩⟩⟩ (fun sg=>?_)
    refine(show RG _ _ _ _ [_,_,_] _ from ?_);refine ia J<|aX<|d6 hx1 hN1 J<|aH<|aH ?_;exact bj (aV (ih1 (i1+1) (min first e3) ar ⟨dZ hx1,h⟩) (bp J))

def O0 e{R}(h:ub e=some R):dR aY 233 [tD cW e] (bB R):=by
 refine fc Tryz.func233 J<|bc<|fx J<|cO<|br<|bm<|fL lc J<|iq h abz (VD _) (ez J) fun r h=>aR J<|ei J J<|ei J J<|ia J<|a8 J<|aB J<|s (gO (D J)) ?_;refine c0 h J (fun h=>?_) (fun h=>?_)
 ·exact bc<|gZ<|au<|so h▸aN J J
 ·exact jf<|bc<|gZ<|so h▸aN J J

def YV(l:Option Nat)(c:Nat) ae{R}(h:kG ae=some R):bk aY 252 [sa l c ae] [dr bP 3 l c ae] (fun i:OI=>sa (i.h 0).1 (i.h 0).2 R) (fun i=>[dr bP 3 (i.h 0).1 (i.h 0).2 R]):=by
 refine bk.of Tryz.func252 J J J fun w0 S0=>bc<|cU false bP 3<|s (cg xj)<|br<|bm<|aR J<|s (jg fD (.tail _ (.head _)) (D J))<|s (jd (D J) hI)<|c0 h J (fun h=>?_) (fun h=>?_)
 ·exact aB J<|bq J<|au<|aZ<|so h▸bF J (oi l c) J J (fun _ _ h=>h)
 ·refine jf<|bm<|cO<|br<|aA<|BT (.tail _ (.head _)) fun hN=>bN<|ta ?_;refine aV (fC (tV:=fun ls i=>(ae.drop i=ls)/\fE ae ls i=some R) (Of:=fun _ i=>[dr bP 3 l c ae]) (Gf:=fun _ i=>[(0,sa l c ae),(3,bB (i:Int))]) (fun i h=>?_) (fun e tl ih i h=>?_) (ae.drop (1)) 1 ⟨J,h⟩) (bp J)
  ·obtain⟨V,h⟩:=h
   exact eE<|bm<|aR J<|aR J<|s (jg fD (.head _) (D J))<|ol J<|br<|BV (D J) (Xh V)<|dG<|aq<|aq<|bW<|aG<|aB J<|bq J<|so h▸bF J (oi l c) J J (fun _ _ h=>h)
  ·obtain⟨V,h⟩:=h
   refine eE<|bm<|aR J<|aR J<|s (jg fD (.head _) (D J))<|ol J<|br<|BU (D J) (TU V)<|jf<|aU<|aA<|aU<|bL h fun e1 q_e1 h=>?_
   refine lx (ts:=[_,_,_,_,_,_,_,_,_,_]) mixed J J
    ⟨iH J J,
    ⟨iH J J,
    ⟨kV 16 0 17 1 J J J (gA fD b9 (.head _) (D J) (D J) (eK V)),
    ⟨gE 18 2 J J (mN (r:=bP) (i:=(i:Int)) (foff:=0) b9 J J bo J (.head _) (eK V) (D J)),
    ⟨iH J J,
    ⟨iH J J,
    ⟨gE 21 5 J J (iF (D J) hI),
    ⟨kV 20 4 22 6 J J J (gA fD b9 (.head _) (D J) (D J) q_e1),
    ⟨gE 23 7 J J (mN (r:=bP) (i:=(IntKind.i64.wrap ((i:Int)-(1:Int)))) (foff:=0) b9 J J bo J (.head _) q_e1 (D J)),
    ⟨kV 19 3 24 8 J J J (eh (D J) (D J)),
    aM⟩⟩⟩⟩⟩⟩⟩⟩⟩⟩ ?_
   refine aG<|jE h J (fun h=>?_) (fun h=>?_)
   ·refine aB J<|aR J<|bL h fun y q_y h=>s (qt fD b9 J (.head _) (D J) (D J) q_y)<|q8 (.head _) q_y fun hv=>a8 J<|bm<|cO<|br<|aA<|bN ?_;refine aV (Px (tV:=fun k1 i1 s1 k=>(y.length-i1=k1)/\ew i y k1 i1 s1 k=some R) (Of:=fun _ i1 s1 k=>[dr bP 3 l c s1]) (Gf:=fun _ i1 s1 k=>[(0,sa l c s1),(3,bB k),(4,Z (nP 1 l c (i:Int).toNat y.length)),(5,bB (i1:Int))]) (fun i1 s1 k h=>?_) (fun k2 ih1 i1 s1 k h=>?_) (y.length-1) 1 ae (i:Int) ⟨J,h⟩) (bp J)
    ·obtain⟨hx1,h⟩:=h
     refine eE<|bm<|aR J<|aR J<|s (Ox fD hv.1 (D J))<|ol J<|br<|BV (D J) (aaL hx1)<|dG<|aq<|aq<|bW<|aG<|aB J<|aR J<|bL h fun y1 q_y1 h=>s (qt fD b9 J (.head _) (D J) (D J) q_y1)<|q8 (.head _) q_y1 fun hv1=>bL h fun cl q_cl h=>?_;exact Q7 b9 J J fD (fun _=>J) J q_y1 (D J) (so q_cl)<|pA (Hx q_y1 (so q_cl)) 0 J<|pA (Hx q_y1 (so q_cl)) 54 J<|br<|aB J<|aR J<|bL h fun y2 q_y2 h=>s (oD fD b9 J (.head _) (D J) (D J) q_y2)<|FC q_y2<|bq J<|eu<|au<|eu<|so h▸bF J (oi l c) J J (fun _ _ h=>h)
    ·obtain⟨hx1,h⟩:=h
     refine eE<|bm<|aR J<|aR J<|s (Ox fD hv.1 (D J))<|ol J<|br<|BU (D J) (aaK hx1)<|jf<|aU<|aA<|aU<|bL h fun e3 q_e3 h=>bL h fun e4 q_e4 h=>?_
     refine lx (ts:=[_,_,_,_,_,_,_,_,_,_]) mixed J J
      ⟨iH J J,
      ⟨iH J J,
      ⟨kV 35 0 36 1 J J J (vb fD b9 J (.head _) (B8 q_y) (D J) (D J) q_e3),
      ⟨gE 37 2 J J (mN (r:=bP) (i:=((i:Int)+(i1:Int))) (foff:=0) b9 J J bo J (.head _) (yU q_e3).2.2 (D J)),
      ⟨iH J J,
      ⟨iH J J,
      ⟨gE 40 5 J J (iF (D J) hI),
      ⟨kV 39 4 41 6 J J J (vb fD b9 J (.head _) (B8 q_y) (D J) (D J) q_e4),
      ⟨gE 42 7 J J (mN (r:=bP) (i:=((i:Int)+(IntKind.i64.wrap ((i1:Int)-(1:Int))))) (foff:=0) b9 J J bo J (.head _) (yU q_e4).2.2 (D J)),
      ⟨kV 38 3 43 8 J J J (kJ (D J) (D J)),
      aM⟩⟩⟩⟩⟩⟩⟩⟩⟩⟩ ?_
     refine aG<|jE h J (fun h=>?_) (fun h=>?_)
     ·refine aB J<|aR J<|aR J<|aR J<|bL h fun e5 q_e5 h=>s (vb fD b9 J (.head _) (B8 q_y) (D J) (D J) q_e5)<|s (mN (r:=bP) (i:=((i:Int)+(i1:Int))) (foff:=0) b9 J J bo J (.head _) (yU q_e5).2.2 (D J))<|bL h fun e6 q_e6 h=>s (gA fD b9 (.head _) (D J) (D J) q_e6)<|bL h fun st q_st h=>yZ b9 J aw J q_e6 (so q_st) (D J) (D J)<|pA (sS (so q_st)) 0 J<|pA (sS (so q_st)) 45 J<|br<|ax<|aR J<|s (fY (D J) hI)<|ia J<|aX<|aF<|aG ?_;refine ax<|aR J<|s (DD (Yo hx1 (aaN hv.2)) (D J) hI)<|ia J<|aX ?_;exact bj (aV (ih1 (i1+1) st (IntKind.i64.wrap (k+(1:Int))) ⟨Yn hx1,h⟩) (bp J))
     ·refine bE<|aF<|aG<|ax<|aR J<|s (DD (Yo hx1 (aaN hv.2)) (D J) hI)<|ia J<|aX ?_;exact bj (aV (ih1 (i1+1) s1 k ⟨Yn hx1,h⟩) (bp J))
   ·refine bE<|aab V hN J ?_;exact bj (aV (ih (i+1) ⟨dZ V,h⟩) (bp J))

end Go.Proofs.YtdohlidddcgfjaaGreat

