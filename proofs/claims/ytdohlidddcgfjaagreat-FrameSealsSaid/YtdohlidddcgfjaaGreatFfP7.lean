/- bS of this claim: P7. -/
import Derived.Test.YtdohlidddcgfjaaGreatFfT
import Derived.Test.YtdohlidddcgfjaaGreatFfP6
set_option linter.all false
namespace Go.Proofs.YtdohlidddcgfjaaGreat
open Go
set_option maxRecDepth 100000

def Yy nodes{R}(h:iM nodes=some R):dR aY 82 [eg (bl) nodes] (tT [eg (pJ) R.1,bB R.2.1,bB R.2.2]):=by
 refine fc Tryz.func82 J<|bc<|jm (pJ)<|cO<|cO<|br<|FP<|bm<|aR J<|cr uj J<|s (jd (D J) hI)<|aR J<|bD J (dy J)<|bD J (mf uj J)<|bD J (fun K=>gm (bM J K) hI)<|j5 J<|c0 h J (fun h=>?_) (fun h=>?_)
 ·exact bc<|jm (pJ)<|cO<|gZ<|au<|qD<|so h▸wV J J J J
 ·refine jf<|aB J<|s (eG (r:=rH bu [(1,.slice none 0 0),(2,.slice none 0 0)]) (y:=(⟨nodes,[],[],Uz,[],[],[]⟩:al)) aaz aaX (zH Us ⟨J,J,aM⟩) (⟨_,_,_,_,_,J,GQ Qb J J,J,(D J),J⟩))<|uU (D J) J fun b=>cU true pJ 69<|cU false bP 3 ?_;refine(show RG _ _ _ _ [_,_,_] _ from ?_);refine a8 J<|bc<|iq h acE V9 trivial fun r h=>a8 J<|bc<|cO<|br<|aU<|FQ<|aG<|bm<|aR J<|cr uj J<|s (bR hI) ?_;refine br ?_;refine Rh (tV:=fun wrong ob l c l1 c1=>jJ nodes wrong ob=some R) (Of:=fun wrong ob l c l1 c1=>[Q (rH bu [(1,av l c ob.kinds.length),(2,av l1 c1 ob.open_.length)]) 168 b ob,tip pJ 69 l c ob.kinds,dr bP 3 l1 c1 ob.open_]) (Gf:=fun wrong ob l c l1 c1=>[(0,eg (bl) nodes),(5,Z (M b 0)),(7,bB wrong)]) (fun wrong ob l c l1 c1 h=>?_) (fun hg=>?_)
  ·skip
   refine aG ?_;refine i0 (tV:=fun wrong1=>lY ob wrong1=some R) (Of:=fun wrong1=>[Q (rH bu [(1,av l c ob.kinds.length),(2,av l1 c1 ob.open_.length)]) 168 b ob,tip pJ 69 l c ob.kinds,dr bP 3 l1 c1 ob.open_]) (Gf:=fun wrong1=>[(5,Z (M b 0)),(7,bB wrong1)]) (fun wrong1 h=>?_) (fun K1=>?_)
   ·skip
    refine bm<|aR J<|s (iN (D J) hI)<|c0 h J (fun h=>?_) (fun h=>?_)
    ·exact aB J<|jm (pJ)<|ia J<|gZ<|au<|qD<|aZ<|aZ<|aZ<|so h▸wV J J J J
    ·refine jf<|bc<|cU false pJ 69<|s (cg xj)<|br<|bm<|aR J<|s (aC (D J))<|aW 1 DI J<|s (nm UG J (.tail _ (.head _)) (.tail _ (.tail _ (.head _))) (D J))<|s (mO Dg (rq (D J)))<|s (bR hI)<|br<|aA<|Re<|Rg 61 J<|bt (k:=61) J fun hN=>bN ?_;refine hE<|gN<|hE<|hE ?_;refine aV (nu (tV:=fun ls i out l2 c2=>(ob.kinds.drop i=ls)/\nw ls out=some R) (Of:=fun _ i out l2 c2=>[dr pJ 69 l2 c2 out,Q (rH bu [(1,av l c ob.kinds.length),(2,av l1 c1 ob.open_.length)]) 168 b ob,tip pJ 69 l c ob.kinds,dr bP 3 l1 c1 ob.open_]) (Gf:=fun _ i out l2 c2=>[(10,sa l2 c2 out),(61,eg (pJ) ob.kinds),(62,nL ob.kinds),(63,bB (i:Int))]) (fun i out l2 c2 h=>?_) (fun e tl ih i out l2 c2 h=>?_) ob.kinds 0 ([]:List (List Int)) none 0 ⟨J,h⟩) (bp J)
     ·obtain⟨V,h⟩:=h
      refine fv V J<|aG<|aB J<|ia J<|cO<|gZ<|qD<|du ?_;exact bA 10 J<|bA 73 J<|bA 2 J<|fd 2 J<|aZ<|aZ<|aZ<|aZ<|so h▸wV J J J J
     ·obtain⟨V,h⟩:=h
      refine ft V J<|aU<|aA<|bc<|fV Dg dc J (eK V)<|a8 J<|ax<|aR J<|aR J<|tE h T0 (Lo _) (ez J) fun r1 h l3 c3=>?_;refine nJ<|j4 69 J<|s (ba (r:=zK) (ys:=[r1]) (xs:=[.tmp 69]) Dg dc J J J J J ⟨(rq (D J)),aM⟩)<|cN<|bL h fun out1 q_out1 h=>cY dc J J J J Dg J J (D J) (D J) q_out1 fun l4 c4=>ia J<|aX<|d6 V hN J<|ah<|aZ ?_;exact bj (aV (ih (i+1) out1 l4 c4 ⟨dZ V,h⟩) (bp J))
   ·skip
    refine aB J<|s (jd (D J) hI)<|aR J<|ai J (dy J)<|ai J (fun K=>aC (bM J K))<|ai J (fun K=>bV (n:=2) s0 J (bM J K) J)<|ai J (fun K=>cQ dc J (.head _) (bM J K))<|ai J (fun K=>jg fD (.tail _ (.tail _ (.head _))) (bM J K))<|ai J (CS J)<|de J<|c0 h J (fun h=>?_) (fun h=>?_)
    ·refine ax<|aR J<|cr uj J<|s (iF (D J) hI)<|ia J<|aX ?_;exact bZ (K1 (IntKind.i64.wrap ((nodes.length:Int)-(1:Int))) h) (bp J)
    ·refine bE ?_;exact bZ (K1 wrong h) (bp J)
  ·skip
   refine bt (k:=25) J fun hN1=>bN<|gN<|mX ?_;refine aV (FH (tV:=fun ls1 i1 wrong2 ob1 l5 c5 l6 c6=>(nodes.drop i1=ls1)/\fh nodes r ls1 i1 wrong2 ob1=some R) (Of:=fun _ i1 wrong2 ob1 l5 c5 l6 c6=>[Q (rH bu [(1,av l5 c5 ob1.kinds.length),(2,av l6 c6 ob1.open_.length)]) 168 b ob1,tip pJ 69 l5 c5 ob1.kinds,dr bP 3 l6 c6 ob1.open_]) (Gf:=fun _ i1 wrong2 ob1 l5 c5 l6 c6=>[(0,eg (bl) nodes),(5,Z (M b 0)),(6,tMp (fun y:(al->Unit->Option (Bool×al))=>qb (fun bb=>eZ aY (fun(x:Unit)=>[Z (M bb 0)]) (eN bb) p9 y)) (WV .i64) r),(7,bB wrong2),(25,eg (bl) nodes),(26,nL nodes),(27,bB (i1:Int))]) (fun i1 wrong2 ob1 l5 c5 l6 c6 h=>?_) (fun e1 tl1 ih1 i1 wrong2 ob1 l5 c5 l6 c6 h=>?_) nodes 0 Di (⟨nodes,[],[],Uz,[],[],[]⟩:al) none 0 none 0 ⟨J,h⟩) (bp J)
   ·obtain⟨hx1,h⟩:=h
    refine fv hx1 J ?_;exact bZ (hg wrong2 ob1 l5 c5 l6 c6 h) (bp J)
   ·obtain⟨hx1,h⟩:=h
    refine ft hx1 J<|aU<|aA<|aB J<|fV uj gB J (eK hx1)<|bv gB k9 J fun b1=>ia J<|bw gB aw J<|be 9 J<|br<|aU ?_;refine ax<|aR J<|aR J<|aR J<|bG mb eQ b9 J<|s (KI (γ:=(fun y:(al->Unit->Option (Bool×al))=>qb (fun bb=>eZ aY (fun(x:Unit)=>[Z (M bb 0)]) (eN bb) AN y))) (z:=(fun _ _=>none)) Dh (jh lz) Z6 (fun _ _=>GJ) (D J) (uq (D J)))<|bL h fun r2 q_r2 h=>aL (EffOK.fr2 (EffOK.fr2 (EffOK.fr2 (an (xs:=[.tmp 32,.tmp 33,.tmp 37]) (ts:=[Z (M b 0),bB (i1:Int),qb (fun bb=>eZ aY (fun(x:Unit)=>[Z (M bb 0)]) (eN bb) p9 ((uo r e1.Op).getD (fun _ _=>none)))]) (eN b ob1 (rf [(l5,c5),(l6,c6)])) _ J acD (Zs b (rf [(l5,c5),(l6,c6)]) ob1 _ _ q_r2) ⟨(D J),(D J),(D J),aM⟩ (fun _=>J))))) J fun i2=>?_;refine(show RG _ _ _ _ [_,_,_] ((38,gR r2.1)::_)from ?_);refine s (gO (D J))<|c0 h J (fun h=>?_) (fun h=>?_)
    ·refine aB J<|a8 J<|dG<|bO J<|aq<|aq<|bW ?_;exact bZ (hg (i1:Int) r2.2 (i2.h 0).1 (i2.h 0).2 (i2.h 1).1 (i2.h 1).2 h) (bp J)
    ·refine bE<|d6 hx1 hN1 J ?_;exact bj (aV (ih1 (i1+1) wrong2 r2.2 (i2.h 0).1 (i2.h 0).2 (i2.h 1).1 (i2.h 1).2 ⟨dZ hx1,h⟩) (bp J))

def YO p{R}(h:tX p=some R):dR aY 40 [tD mp p] (gR R):=by
 refine fc Tryz.func40 J<|bc<|fx J<|bz<|br<|bc<|s (cg (show aJ _ _ _ ((lK aY JJ p9 (fun(x:Int)=>qZ x)))from(Ta adj fun x y h=>Yz _ h)))<|br<|bm<|bG wD pu Ik J<|cr xe J<|s (bR hI)<|br<|aA<|bt (k:=12) J fun hN=>bN ?_;refine aV (fC (tV:=fun ls i=>(p.Frags.drop i=ls)/\nG p ls=some R) (Of:=fun _ i=>[]) (Gf:=fun _ i=>[(1,dk mp p),(3,(lK aY JJ p9 (fun(x:Int)=>qZ x))),(12,eg (cJ) p.Frags),(13,nL p.Frags),(14,bB (i:Int))]) (fun i h=>?_) (fun e tl ih i h=>?_) p.Frags 0 ⟨J,h⟩) (bp J)
 ·obtain⟨V,h⟩:=h
  refine fv V J<|aG<|bc<|bG wD pu Ik J<|cr xe J<|s (iN (D J) hI)<|aR J<|ai J (ci wD pu J J)<|ai J (ce Ik J J)<|ai J (mf xe J)<|ai J (fun K=>hX (bM J K) hI) ?_;exact de J<|bq J<|so h▸aN J J
 ·obtain⟨V,h⟩:=h
  refine ft V J<|aU<|aA<|bc<|fV xe qF J (eK V)<|bv qF pU J fun b=>bw qF aw J<|be 5 J<|br<|bc<|sf Af tn J ?_;refine fL FY J<|iq h adi (Yy _) (ez J) fun r h=>aR J<|ei J J<|ei J J<|ei J J<|ia J<|ia J<|a8 J<|bc<|bG Fj vH b9 J<|bU J<|aR J<|bD J (ci Fj vH J J)<|bD J (ce b9 J J)<|bD J (mD J)<|j5 J<|ia J<|aX ?_;refine aG<|bc<|bG Fi vG b9 J<|s (iN (D J) hI)<|aR J<|ai J (ci Fi vG J J)<|ai J (ce b9 J J)<|ai J (fun K=>hX (bM J K) hI)<|de J<|aR J<|ai J (ci Cr tm J J)<|ai J (ce dc J J)<|ai J (mf fD J)<|ai J (fun K=>hX (bM J K) hI)<|de J<|aR J<|bL h fun t q_t h=>ai J (ci Cr tm J J)<|ai J (ce dc J J)<|ai J (dy J) ?_
  obtain⟨r1,h1t,h0t⟩:=og q_t
  have q_r1g:=fun H=>(h1t H).1
  refine ai J (fun K=>dz ZC (Na _ _ (q_r1g K)) ⟨(bM J K),(bM J K),aM⟩)<|ai J (AO J)<|s (dj (D J) (fun H=>(bM J H)) (fun H=>(h1t H).2) h0t)<|a8 J<|aB J<|nU J<|aR J<|bD J (dy J)<|bD J (AO J)<|j5 J<|aR J<|bD J (dy J)<|bD J (AO J)<|j5 J<|c0 h J (fun h=>?_) (fun h=>?_)
  ·exact bc<|bz<|bQ<|eu<|au<|eu<|so h▸aN J J
  ·refine bE<|d6 V hN J ?_;exact bj (aV (ih (i+1) ⟨dZ V,h⟩) (bp J))

def V6 n{R}(h:wn n=some R):dR aY 154 [tD od n] (gR R):=by
 exact fc Tryz.func154 J<|bc<|bz<|br<|aB J<|s (iN (D J) hI)<|aR J<|ai J (dy J)<|ai J (fun K=>hX (bM J K) hI)<|de J<|bq J<|so h▸aN J J

def VG ae f{R}(h:iI ae f=some R):dR aY 248 [eg (mj) ae,(lK aY XF p9 (fun(x:(List am))=>f x))] (bB R):=by
 refine fc Tryz.func248 J<|bc<|cO<|br<|bm<|aR J<|cr vm J<|s (bR hI)<|br<|aA<|bt (k:=6) J fun hN=>bN ?_;refine aV (fC (tV:=fun ls i=>(ae.drop i=ls)/\dV f ls i=some R) (Of:=fun _ i=>[]) (Gf:=fun _ i=>[(0,eg (mj) ae),(1,(lK aY XF p9 (fun(x:(List am))=>f x))),(7,nL ae),(8,bB (i:Int))]) (fun i h=>?_) (fun e tl ih i h=>?_) ae 0 ⟨J,h⟩) (bp J)
 ·obtain⟨V,h⟩:=h
  exact fv V J<|aG<|bc<|gZ<|so h▸aN J J
 ·obtain⟨V,h⟩:=h
  refine ft V J<|aU<|aA<|aB J<|a8 J<|aB J<|aR J<|aR J<|GE vm CT J (eK V) ?_;refine fL CT J<|bL h fun r q_r h=>s (lM (args:=(fun(x:(List am))=>[tD mj x])) (res:=AN) (f:=(fun(x:(List am))=>f x)) (x:=((e):(List am))) (D J) q_r ⟨(D J),aM⟩)<|c0 h J (fun h=>?_) (fun h=>?_)
  ·exact aB J<|bq J<|eu<|au<|eu<|so h▸aN J J
  ·refine bE<|d6 V hN J ?_;exact bj (aV (ih (i+1) ⟨dZ V,h⟩) (bp J))

def VR ae f{R}(h:ff ae f=some R):dR aY 228 [eg (mj) ae,(lK aY XF p9 (fun(x:(List am))=>f x))] (gR R):=by
 exact fc Tryz.func228 J<|bc<|bz<|br<|aB J<|aR J<|iq h abB (VG _ _) (ez J) fun r h=>s (iN (D J) hI)<|bq J<|so h▸aN J J

def VC v{R}(h:si v=some R):dR aY 258 [tD bg v] (gR R):=by
 exact fc Tryz.func258 J<|bc<|fx J<|bz<|br<|bc<|fL di J<|iq h BF (s6 _) (ez J) fun r h=>nU J<|bq J<|so h▸aN J J

def Vz ae f{R}(h:ld ae f=some R):dR aY 264 [eg (bg) ae,(lK aY Rw p9 (fun(x:am)=>f x))] (bB R):=by
 refine fc Tryz.func264 J<|bc<|cO<|br<|bm<|aR J<|cr AA J<|s (bR hI)<|br<|aA<|bt (k:=6) J fun hN=>bN ?_;refine aV (fC (tV:=fun ls i=>(ae.drop i=ls)/\df f ls i=some R) (Of:=fun _ i=>[]) (Gf:=fun _ i=>[(0,eg (bg) ae),(1,(lK aY Rw p9 (fun(x:am)=>f x))),(7,nL ae),(8,bB (i:Int))]) (fun i h=>?_) (fun e tl ih i h=>?_) ae 0 ⟨J,h⟩) (bp J)
 ·obtain⟨V,h⟩:=h
  exact fv V J<|aG<|bc<|gZ<|so h▸aN J J
 ·obtain⟨V,h⟩:=h
  refine ft V J<|aU<|aA<|aB J<|a8 J<|aB J<|aR J<|aR J<|GE AA di J (eK V) ?_;refine fL di J<|bL h fun r q_r h=>s (lM (args:=Rw) (res:=AN) (f:=(fun(x:am)=>f x)) (x:=((e):am)) (D J) q_r ⟨(D J),aM⟩)<|c0 h J (fun h=>?_) (fun h=>?_)
  ·exact aB J<|bq J<|eu<|au<|eu<|so h▸aN J J
  ·refine bE<|d6 V hN J ?_;exact bj (aV (ih (i+1) ⟨dZ V,h⟩) (bp J))

def VB ae f{R}(h:gH ae f=some R):dR aY 259 [eg (bg) ae,(lK aY Rw p9 (fun(x:am)=>f x))] (gR R):=by
 exact fc Tryz.func259 J<|bc<|bz<|br<|aB J<|aR J<|iq h abr (Vz _ _) (ez J) fun r h=>s (iN (D J) hI)<|bq J<|so h▸aN J J

def VF r{R}(h:yH r=some R):dR aY 249 [eg (bg) r] (gR R):=by
 refine fc Tryz.func249 J<|bc<|bz<|br<|bc<|s (cg (show aJ _ _ _ ((lK aY Rw p9 (fun(x:am)=>si x)))from(Ta abu fun x y h=>VC _ h)))<|br<|aB J<|cr AA J<|s (hX (D J) hI)<|aR J<|bL h fun t q_t h=>ai J (dy J)<|ai J (dy J) ?_
 obtain⟨r1,h1t,h0t⟩:=og q_t
 have q_r1g:=fun H=>(h1t H).1
 exact ai J (fun K=>dz abt (VB _ _ (q_r1g K)) ⟨(bM J K),(bM J K),aM⟩)<|ai J (AO J)<|s (dj (D J) (fun H=>(bM J H)) (fun H=>(h1t H).2) h0t)<|bq J<|so h▸aN J J

def VP r{R}(h:yI r=some R):dR aY 230 [eg (bg) r] (bB R):=by
 refine fc Tryz.func230 J<|bc<|cO<|br<|bm<|aR J<|iq h abA (VF _) (ez J) fun r1 h=>s (gO (D J))<|c0 h J (fun h=>?_) (fun h=>?_)
 ·exact bc<|gZ<|au<|so h▸aN J J
 ·exact jf<|bc<|gZ<|so h▸aN J J

def VQ r{R}(h:xY r=some R):dR aY 229 [eg (bg) r] (gR R):=by
 exact fc Tryz.func229 J<|bc<|bz<|br<|aB J<|iq h abM (VP _) (ez J) fun r1 h=>nU J<|bq J<|so h▸aN J J

def VZ l{R}(h:yS l=some R):dR aY 197 [eg (mj) l] (gR R):=by
 refine fc Tryz.func197 J<|bc<|bz<|br<|aB J<|cr vm J<|s (gm (D J) hI)<|aR J<|ai J (dy J)<|ai J (mf vm J)<|ai J (fun K=>hX (bM J K) hI)<|de J<|aR J<|bL h fun t q_t h=>ai J (dy J) ?_
 obtain⟨r,h1t,h0t⟩:=og q_t
 have q_rg:=fun H=>(h1t H).1
 exact ai J (fun K=>dz abO (VR _ _ (q_rg K)) ⟨(bM J K),(Ta abN fun x y h=>VQ _ h),aM⟩)<|ai J (AO J)<|s (dj (D J) (fun H=>(bM J H)) (fun H=>(h1t H).2) h0t)<|bq J<|so h▸aN J J

def V5 b seq{R}(h:wo b seq=some R):dR aY 155 [tD ky b,tD mi seq] (gR R):=by
 refine fc Tryz.func155 J<|bc<|fx J<|bz<|br<|bm<|aR J<|s (jd (D J) hI)<|aR J<|bD J (dy J)<|bD J (fun K=>gm (bM J K) hI)<|j5 J<|c0 h J (fun h=>?_) (fun h=>?_)
 ·exact bc<|bz<|bQ<|au<|so h▸aN J J
 ·refine jf<|bm<|bG wB oQ Aw J<|c0 h J (fun h=>?_) (fun h=>?_)
  ·exact bc<|bG wC oR Ij J<|cr vm J<|bU J<|aR J<|ai J (ci yn qi J J)<|ai J (ce pN J J)<|ai J (dy J)<|ai J (fun K=>iF (bM J K) hI)<|ai J (fun K=>eh (bM J K) (bM J K))<|de J<|bq J<|au<|so h▸aN J J
  ·refine jf<|bc<|bG yn qi pN J<|bU J<|aR J<|bL h fun t q_t h=>ai J (ci wC oR J J)<|ai J (ce Ij J J) ?_
   obtain⟨r,h1t,h0t⟩:=og q_t
   have q_rg:=fun H=>(h1t H).1
   exact ai J (fun K=>dz ab5 (VZ _ (q_rg K)) ⟨(bM J K),aM⟩)<|s (dj (D J) (fun H=>(bM J H)) (fun H=>(h1t H).2) h0t)<|bq J<|so h▸aN J J

def VO a1 b{R}(h:vu a1 b=some R):dR aY 231 [eg (bg) a1,eg (bg) b] (gR R):=by
 exact fc Tryz.func231 J<|bc<|bz<|br<|aB J<|aR J<|iq h abm (Tk _ _) (ez J) fun r h=>bq J<|so h▸aN J J

def VY a1 b{R}(h:AU a1 b=some R):dR aY 198 [eg (mj) a1,eg (mj) b] (gR R):=by
 exact fc Tryz.func198 J<|bc<|bz<|br<|aB J<|aR J<|iq h abn (Tl _ _ _) ⟨(D J),(D J),(Ta abL fun x y h=>VO _ _ h),aM⟩ fun r h=>bq J<|so h▸aN J J

def V4 a1 b{R}(h:yR a1 b=some R):dR aY 156 [tD ky a1,tD ky b] (gR R):=by
 refine fc Tryz.func156 J<|bc<|fx J<|fx J<|bz<|br<|bc<|bG wB oQ Aw J<|bG wB oQ Aw J<|s (IH JE (D J) (D J))<|aR J<|ai J (ci yn qi J J)<|ai J (ce pN J J)<|ai J (ci yn qi J J)<|ai J (ce pN J J)<|ai J (fun K=>eh (bM J K) (bM J K))<|de J<|aR J<|bL h fun t q_t h=>?_;refine ai J (ci wC oR J J)<|ai J (ce Ij J J)<|ai J (ci wC oR J J)<|ai J (ce Ij J J) ?_
 obtain⟨r,h1t,h0t⟩:=og q_t
 have q_rg:=fun H=>(h1t H).1
 exact ai J (fun K=>dz ab4 (VY _ _ (q_rg K)) ⟨(bM J K),(bM J K),aM⟩)<|s (dj (D J) (fun H=>(bM J H)) (fun H=>(h1t H).2) h0t)<|bq J<|so h▸aN J J

def Wd p{R}(h:pj p=some R):dR aY 115 [tD cz p] (bB R):=by
 refine fc Tryz.func115 J<|bc<|fx J<|cO<|br<|bc<|bG IU uM re J<|iq h acx (V6 _) (ez J) fun r h=>a8 J<|bm<|bG Fm sq b9 J<|br<|aA ?_;refine bc<|bU J<|a8 J<|jE h J (fun h=>?_) (fun h=>?_)
 ·refine ax<|aR J<|aR J<|ai J (ci Aj qz J J)<|ai J (ce pN J J)<|ai J (mD J)<|de J<|aR J<|bL h fun t q_t h=>ai J (ci oT fz J J)<|ai J (ce X0 J J)<|ai J (ci Ak oL J J)<|ai J (ce pN J J) ?_
  obtain⟨r1,h1t,h0t⟩:=og q_t
  have q_r1g:=fun H=>(h1t H).1
  refine ai J (fun K=>dz acw (V5 _ _ (q_r1g K)) ⟨(bM J K),(bM J K),aM⟩)<|s (dj (D J) (fun H=>(bM J H)) (fun H=>(h1t H).2) h0t)<|ia J<|aX<|aF<|aG<|bm<|aR J<|s (gO (D J))<|c0 h J (fun h=>?_) (fun h=>?_)
  ·exact bc<|gZ<|au<|so h▸aN J J
  ·exact jf<|bc<|gZ<|so h▸aN J J
 ·refine bc<|bU J<|a8 J<|jE h J (fun h=>?_) (fun h=>?_)
  ·refine ax<|aR J<|aR J<|bL h fun t1 q_t1 h=>ai J (ci oT fz J J)<|ai J (ce X0 J J)<|ai J (fun K=>eG X0 ac7 JH J) ?_
   obtain⟨r2,h1t1,h0t1⟩:=og q_t1
   have q_r2g:=fun H=>(h1t1 H).1
   refine ai J (fun K=>dz acv (V4 _ _ (q_r2g K)) ⟨(bM J K),(bM J K),aM⟩)<|s (dj (D J) (fun H=>(bM J H)) (fun H=>(h1t1 H).2) h0t1)<|aR J<|ai J (ci Ak oL J J)<|ai J (ce pN J J)<|ai J (fun K=>iN (bM J K) hI)<|de J<|aR J<|ai J (ci Ak oL J J)<|ai J (ce pN J J)<|ai J (fun K=>hX (bM J K) hI)<|de J<|aR J<|ai J (ci Aj qz J J)<|ai J (ce pN J J)<|ai J (ci Ak oL J J)<|ai J (ce pN J J)<|ai J (fun K=>iF (bM J K) hI)<|ai J (fun K=>iN (bM J K) (bM J K))<|de J<|aR J<|ai J (ci Aj qz J J)<|ai J (ce pN J J)<|ai J (fun K=>hX (bM J K) hI) ?_;refine de J<|ia J<|aX<|aF<|aG<|bm<|aR J<|s (gO (D J))<|c0 h J (fun h=>?_) (fun h=>?_)
   ·exact bc<|gZ<|au<|so h▸aN J J
   ·exact jf<|bc<|gZ<|so h▸aN J J
  ·refine ax<|bz<|aX<|aF<|aG<|bm<|aR J<|s (gO (D J))<|c0 h J (fun h=>?_) (fun h=>?_)
   ·exact bc<|gZ<|au<|so h▸aN J J
   ·exact jf<|bc<|gZ<|so h▸aN J J

def We m kind{R}(h:iT m kind=some R):dR aY 114 [bB kind,dk fM m] (gR R):=by
 refine fc Tryz.func114 J<|bc<|bz<|br<|bc<|bG yl yh b9 J<|s (iN (D J) hI)<|aR J<|ai J (ci yl yh J J)<|ai J (ce b9 J J)<|ai J (fun K=>jd (bM J K) hI)<|de J<|aR J<|ai J (ci wA vF J J)<|ai J (fun K=>gK Fm J sq J (bM J K))<|ai J (ce b9 J J)<|ai J (dy J)<|ai J (fun K=>eh (bM J K) (bM J K))<|de J<|aR J ?_;refine bL h fun t q_t h=>ai J (ci wA vF J J)<|ai J (ce sP J J) ?_
 obtain⟨r,h1t,h0t⟩:=og q_t
 have q_rg:=fun H=>(h1t H).1
 exact ai J (fun K=>dz acI (Wd _ (q_rg K)) ⟨(bM J K),aM⟩)<|ai J (mD J)<|s (dj (D J) (fun H=>(bM J H)) (fun H=>(h1t H).2) h0t)<|bq J<|so h▸aN J J

def YJ m{R}(h:sX m=some R):dR aY 58 [tD fM m] (gR R):=by
 refine fc Tryz.func58 J<|bc<|fx J<|bz<|br<|bc<|s ((show cu _ _ _ _ ((lK aY JJ p9 (fun(x:Int)=>(iT m) x)))from xT (cts:=[dk fM m]) (caps:=[.tmp 1]) acJ ⟨(D J),aM⟩ (fun x y h=>We _ _ h)))<|a8 J<|bm<|bG ym t7 b9 J<|br<|aA<|bc<|bU J ?_;refine a8 J<|jE h J (fun h=>?_) (fun h=>?_)
 ·refine bc<|bG Ai yg b9 J<|s (iN (D J) hI)<|aR J<|ai J (ci Ai yg J J)<|ai J (ce b9 J J)<|ai J (fun K=>hX (bM J K) hI)<|de J<|aR J<|bL h fun t q_t h=>ai J (ci Ah yf J J)<|ai J (ce Dl J J) ?_
  obtain⟨r,h1t,h0t⟩:=og q_t
  have q_rg:=fun H=>(h1t H).1
  exact ai J (fun K=>dz adE (YO _ (q_rg K)) ⟨(bM J K),aM⟩)<|s (dj (D J) (fun H=>(bM J H)) (fun H=>(h1t H).2) h0t)<|bq J<|eu<|so h▸aN J J
 ·refine i0 (tV:=fun x=>nt m x=some R) (Of:=fun x=>[]) (Gf:=fun x=>[(1,dk fM m),(3,(lK aY JJ p9 (fun(x:Int)=>(iT m) x))),(6,bB m.Kind),(22,gR x)]) (fun x h=>?_) (fun hg=>?_)
  ·skip
   refine jE h J (fun h=>?_) (fun h=>?_)
   ·exact bc<|bz<|bQ<|eu<|so h▸aN J J
   ·refine bc<|bU J<|a8 J<|jE h J (fun h=>?_) (fun h=>?_)
    ·exact aB J<|bL h fun r1 q_r1 h=>s (lM (args:=Ru) (res:=AN) (f:=(fun(x:Int)=>(iT m) x)) (x:=(((1:Int)):Int)) (D J) q_r1 ⟨hI,aM⟩)<|bq J<|eu<|so h▸aN J J
    ·refine bc<|bU J<|a8 J<|jE h J (fun h=>?_) (fun h=>?_)
     ·exact aB J<|bL h fun r2 q_r2 h=>s (lM (args:=Ru) (res:=AN) (f:=(fun(x:Int)=>(iT m) x)) (x:=(((2:Int)):Int)) (D J) q_r2 ⟨hI,aM⟩)<|bq J<|eu<|so h▸aN J J
     ·refine bc<|bU J<|a8 J<|jE h J (fun h=>?_) (fun h=>?_)
      ·exact bc<|bG yk ye zO J<|bU J<|aR J<|bD J (ci yk ye J J)<|bD J (ce zO J J)<|bD J (mD J)<|j5 J<|bq J<|eu<|so h▸aN J J
      ·exact bE<|aF<|aG<|bc<|bz<|bQ<|so h▸aN J J
  ·skip
   refine bc<|bU J<|a8 J<|jE h J (fun h=>?_) (fun h=>?_)
   ·refine bE ?_;exact bZ (hg (m.Kind==(2:Int)) h) (bp J)
   ·refine bc<|bU J<|a8 J<|jE h J (fun h=>?_) (fun h=>?_)
    ·refine bE ?_;exact bZ (hg (m.Kind==(6:Int)) h) (bp J)
    ·refine ax<|bU J<|ia J<|aX ?_;exact bZ (hg (m.Kind==(7:Int)) h) (bp J)

end Go.Proofs.YtdohlidddcgfjaaGreat

