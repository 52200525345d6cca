/- bR of this claim: P7. -/
import Derived.Test.YtdohlidddcgfjaaGreatFbT
import Derived.Test.YtdohlidddcgfjaaGreatFbP6
set_option linter.all false
namespace Go.Proofs.YtdohlidddcgfjaaGreat
open Go
set_option maxRecDepth 100000

def RC nodes{R}(h:kF nodes=some R):dy aV 82 [ep (bc) nodes] (tT [ep (nt) R.1,bA R.2.1,bA R.2.2]):=by
 refine eu Tryz.func82 J<|a8<|kb (nt)<|cC<|cC<|bp<|Cj<|bm<|aO J<|cw um J<|s (ij (D J) hI)<|aO J<|bX J (cN J)<|bX J (ml um J)<|bX J (fun X=>jL (bC J X) hI)<|ka J<|dd h J (fun h=>?_) (fun h=>?_)
 ·exact a8<|kb (nt)<|cC<|fZ<|aC<|ox<|so h▸vV J J J J
 ·refine ji<|ay J<|s (eh (r:=rH bh [(1,.slice none 0 0),(2,.slice none 0 0)]) (y:=(⟨nodes,[],[],N8,[],[],[]⟩:ai)) Tg TT (zH N0 ⟨J,J,d⟩) (⟨_,_,_,_,_,J,Dd KF J J,J,(D J),J⟩))<|qx (D J) J fun b=>cz true nt 69<|cz false bH 3 ?_;refine(show RG _ _ _ _ [_,_,_] _ from ?_);refine aW J<|a8<|iw h VA PC trivial fun r h=>aW J<|a8<|cC<|bp<|aP<|Ck<|aH<|bm<|aO J<|cw um J<|s (bU hI) ?_;refine bp ?_;refine LF (bx:=fun wrong ob l c l1 c1=>jv nodes wrong ob=some R) (Of:=fun wrong ob l c l1 c1=>[Z (rH bh [(1,an l c ob.kinds.length),(2,an l1 c1 ob.open_.length)]) 168 b ob,tip nt 69 l c ob.kinds,cM bH 3 l1 c1 ob.open_]) (Gf:=fun wrong ob l c l1 c1=>[(0,ep (bc) nodes),(5,K (M b 0)),(7,bA wrong)]) (fun wrong ob l c l1 c1 h=>?_) (fun tV=>?_)
  ·skip
   refine aH ?_;refine gR (bx:=fun wrong1=>kE ob wrong1=some R) (Of:=fun wrong1=>[Z (rH bh [(1,an l c ob.kinds.length),(2,an l1 c1 ob.open_.length)]) 168 b ob,tip nt 69 l c ob.kinds,cM bH 3 l1 c1 ob.open_]) (Gf:=fun wrong1=>[(5,K (M b 0)),(7,bA wrong1)]) (fun wrong1 h=>?_) (fun K1=>?_)
   ·skip
    refine bm<|aO J<|s (gE (D J) hI)<|dd h J (fun h=>?_) (fun h=>?_)
    ·exact ay J<|kb (nt)<|gU J<|fZ<|aC<|ox<|ba<|ba<|ba<|so h▸vV J J J J
    ·refine ji<|a8<|cz false nt 69<|s (bZ u5)<|bp<|bm<|aO J<|s (aD (D J))<|aX 1 Ak J<|s (lc Oh J (.tail _ (.head _)) (.tail _ (.tail _ (.head _))) (D J))<|s (ld zY (sf (D J)))<|s (bU hI)<|bp<|aA<|LC<|LE 61 J<|bt (k:=61) J fun hN=>bV ?_;refine fO<|fD<|fO<|fO ?_;refine aT (lS (bx:=fun ls i out l2 c2=>(ob.kinds.drop i=ls)/\lU ls out=some R) (Of:=fun _ i out l2 c2=>[cM nt 69 l2 c2 out,Z (rH bh [(1,an l c ob.kinds.length),(2,an l1 c1 ob.open_.length)]) 168 b ob,tip nt 69 l c ob.kinds,cM bH 3 l1 c1 ob.open_]) (Gf:=fun _ i out l2 c2=>[(10,pY l2 c2 out),(61,ep (nt) ob.kinds),(62,nu ob.kinds),(63,bA (i:Int))]) (fun i out l2 c2 h=>?_) (fun e tl ih i out l2 c2 h=>?_) ob.kinds 0 ([]:List (List Int)) none 0 ⟨J,h⟩) (bj J)
     ·obtain⟨V,h⟩:=h
      refine ft V J<|aH<|ay J<|gU J<|cC<|fZ<|ox<|df ?_;exact bJ 10 J<|bJ 73 J<|bJ 2 J<|fE 2 J<|ba<|ba<|ba<|ba<|so h▸vV J J J J
     ·obtain⟨V,h⟩:=h
      refine fq V J<|aP<|aA<|a8<|fP zY cF J (eo V)<|aW J<|av<|aO J<|aO J<|uE h NC (GJ _) (eb J) fun r1 h l3 c3=>?_;refine vS<|s8 69 J<|s (aY (r:=wF) (ys:=[r1]) (xs:=[.tmp 69]) zY cF J J J J J ⟨(sf (D J)),d⟩)<|cu<|bT h fun out1 q_out1 h=>cU cF J J J J zY J J (D J) (D J) q_out1 fun l4 c4=>gU J<|aS<|dY V hN J<|aj<|ba ?_;exact bf (aT (ih (i+1) out1 l4 c4 ⟨dO V,h⟩) (bj J))
   ·skip
    refine ay J<|s (ij (D J) hI)<|aO J<|ah J (cN J)<|ah J (fun X=>aD (bC J X))<|ah J (fun X=>bK (n:=2) qr J (bC J X) J)<|ah J (fun X=>dv cF J (.head _) (bC J X))<|ah J (fun X=>hD er (.tail _ (.tail _ (.head _))) (bC J X))<|ah J (zB J)<|cB J<|dd h J (fun h=>?_) (fun h=>?_)
    ·refine av<|aO J<|cw um J<|s (ii (D J) hI)<|gU J<|aS ?_;exact bP (K1 (IntKind.i64.wrap ((nodes.length:Int)-(1:Int))) h) (bj J)
    ·refine bD ?_;exact bP (K1 wrong h) (bj J)
  ·skip
   refine bt (k:=25) J fun hN1=>bV<|fD<|lu ?_;refine aT (Cc (bx:=fun ls1 i1 wrong2 ob1 l5 c5 l6 c6=>(nodes.drop i1=ls1)/\fh nodes r ls1 i1 wrong2 ob1=some R) (Of:=fun _ i1 wrong2 ob1 l5 c5 l6 c6=>[Z (rH bh [(1,an l5 c5 ob1.kinds.length),(2,an l6 c6 ob1.open_.length)]) 168 b ob1,tip nt 69 l5 c5 ob1.kinds,cM bH 3 l6 c6 ob1.open_]) (Gf:=fun _ i1 wrong2 ob1 l5 c5 l6 c6=>[(0,ep (bc) nodes),(5,K (M b 0)),(6,Tj (fun y:(ai->Unit->Option (Bool×ai))=>nN (fun bb=>d5 aV (fun(x:Unit)=>[K (M bb 0)]) (dM bb) nM y)) (Qj .i64) r),(7,bA wrong2),(25,ep (bc) nodes),(26,nu nodes),(27,bA (i1:Int))]) (fun i1 wrong2 ob1 l5 c5 l6 c6 h=>?_) (fun e1 tl1 ih1 i1 wrong2 ob1 l5 c5 l6 c6 h=>?_) nodes 0 z2 (⟨nodes,[],[],N8,[],[],[]⟩:ai) none 0 none 0 ⟨J,h⟩) (bj J)
   ·obtain⟨hx1,h⟩:=h
    refine ft hx1 J ?_;exact bP (tV wrong2 ob1 l5 c5 l6 c6 h) (bj J)
   ·obtain⟨hx1,h⟩:=h
    refine fq hx1 J<|aP<|aA<|ay J<|fP um fG J (eo hx1)<|bw fG j7 J fun b1=>gU J<|bG fG aB J<|bg 9 J<|bp<|aP ?_;refine av<|aO J<|aO J<|aO J<|bz kI dQ bS J<|s (Gd (γ:=(fun y:(ai->Unit->Option (Bool×ai))=>nN (fun bb=>d5 aV (fun(x:Unit)=>[K (M bb 0)]) (dM bb) xB y))) (z:=(fun _ _=>none)) zZ (hE kz) SZ (fun _ _=>C5) (D J) (ro (D J)))<|bT h fun r2 q_r2 h=>aR (EffOK.fr2 (EffOK.fr2 (EffOK.fr2 (au (xs:=[.tmp 32,.tmp 33,.tmp 37]) (ts:=[K (M b 0),bA (i1:Int),nN (fun bb=>d5 aV (fun(x:Unit)=>[K (M bb 0)]) (dM bb) nM ((sq r e1.Op).getD (fun _ _=>none)))]) (dM b ob1 (o5 [(l5,c5),(l6,c6)])) _ J Vz (Sy b (o5 [(l5,c5),(l6,c6)]) ob1 _ _ q_r2) ⟨(D J),(D J),(D J),d⟩ (fun _=>J))))) J fun i2=>?_;refine(show RG _ _ _ _ [_,_,_] ((38,gw r2.1)::_)from ?_);refine s (fH (D J))<|dd h J (fun h=>?_) (fun h=>?_)
    ·refine ay J<|aW J<|dh<|bF J<|aq<|aq<|bY ?_;exact bP (tV (i1:Int) r2.2 (i2.h 0).1 (i2.h 0).2 (i2.h 1).1 (i2.h 1).2 h) (bj J)
    ·refine bD<|dY hx1 hN1 J ?_;exact bf (aT (ih1 (i1+1) wrong2 r2.2 (i2.h 0).1 (i2.h 0).2 (i2.h 1).1 (i2.h 1).2 ⟨dO hx1,h⟩) (bj J))

def IC p{R}(h:lE p=some R):dy aV 40 [tD kj p] (gw R):=by
 refine eu Tryz.func40 J<|a8<|eG J<|bE<|bp<|a8<|s (bZ (show aI _ _ _ ((ke aV Fs nM (fun(x:Int)=>oS x)))from(MU Wo fun x y h=>RD _ h)))<|bp<|bm<|bz vh om FF J<|cw wD J<|s (bU hI)<|bp<|aA<|bt (k:=12) J fun hN=>bV ?_;refine aT (gO (bx:=fun ls i=>(p.Frags.drop i=ls)/\lZ p ls=some R) (Of:=fun _ i=>[]) (Gf:=fun _ i=>[(1,cH kj p),(3,(ke aV Fs nM (fun(x:Int)=>oS x))),(12,ep (ck) p.Frags),(13,nu p.Frags),(14,bA (i:Int))]) (fun i h=>?_) (fun e tl ih i h=>?_) p.Frags 0 ⟨J,h⟩) (bj J)
 ·obtain⟨V,h⟩:=h
  refine ft V J<|aH<|a8<|bz vh om FF J<|cw wD J<|s (gE (D J) hI)<|aO J<|ah J (ca vh om J J)<|ah J (b7 FF J J)<|ah J (ml wD J)<|ah J (fun X=>gu (bC J X) hI) ?_;exact cB J<|bk J<|so h▸aQ J J
 ·obtain⟨V,h⟩:=h
  refine fq V J<|aP<|aA<|a8<|fP wD pd J (eo V)<|bw pd oC J fun b=>bG pd aB J<|bg 5 J<|bp<|a8<|sG y9 s3 J ?_;refine eJ Ej J<|iw h Wn (RC _) (eb J) fun r h=>aO J<|eF J J<|eF J J<|eF J J<|gU J<|gU J<|aW J<|a8<|bz BG s0 bS J<|bM J<|aO J<|bX J (ca BG s0 J J)<|bX J (b7 bS J J)<|bX J (kL J)<|ka J<|gU J<|aS ?_;refine aH<|a8<|bz BF sZ bS J<|s (gE (D J) hI)<|aO J<|ah J (ca BF sZ J J)<|ah J (b7 bS J J)<|ah J (fun X=>gu (bC J X) hI)<|cB J<|aO J<|ah J (ca BE sY J J)<|ah J (b7 cF J J)<|ah J (ml er J)<|ah J (fun X=>gu (bC J X) hI)<|cB J<|aO J<|bT h fun t q_t h=>ah J (ca BE sY J J)<|ah J (b7 cF J J)<|ah J (cN J) ?_
  obtain⟨r1,h1t,h0t⟩:=og q_t
  have q_r1g:=fun W=>(h1t W).1
  refine ah J (fun X=>c7 SK (Iz _ _ (q_r1g X)) ⟨(bC J X),(bC J X),d⟩)<|ah J (xC J)<|s (cA (D J) (fun W=>(bC J W)) (fun W=>(h1t W).2) h0t)<|aW J<|ay J<|nW J<|aO J<|bX J (cN J)<|bX J (xC J)<|ka J<|aO J<|bX J (cN J)<|bX J (xC J)<|ka J<|dd h J (fun h=>?_) (fun h=>?_)
  ·exact a8<|bE<|cj<|fa<|aC<|fa<|so h▸aQ J J
  ·refine bD<|dY V hN J ?_;exact bf (aT (ih (i+1) ⟨dO V,h⟩) (bj J))

def PA n{R}(h:xR n=some R):dy aV 154 [tD m2 n] (gw R):=by
 exact eu Tryz.func154 J<|a8<|bE<|bp<|ay J<|s (gE (D J) hI)<|aO J<|ah J (cN J)<|ah J (fun X=>gu (bC J X) hI)<|cB J<|bk J<|so h▸aQ J J

def Pa ae f{R}(h:kg ae f=some R):dy aV 248 [ep (wG) ae,(ke aV QM nM (fun(x:(List ap))=>f x))] (bA R):=by
 refine eu Tryz.func248 J<|a8<|cC<|bp<|bm<|aO J<|cw xq J<|s (bU hI)<|bp<|aA<|bt (k:=6) J fun hN=>bV ?_;refine aT (gO (bx:=fun ls i=>(ae.drop i=ls)/\fQ f ls i=some R) (Of:=fun _ i=>[]) (Gf:=fun _ i=>[(0,ep (wG) ae),(1,(ke aV QM nM (fun(x:(List ap))=>f x))),(7,nu ae),(8,bA (i:Int))]) (fun i h=>?_) (fun e tl ih i h=>?_) ae 0 ⟨J,h⟩) (bj J)
 ·obtain⟨V,h⟩:=h
  exact ft V J<|aH<|a8<|fZ<|so h▸aQ J J
 ·obtain⟨V,h⟩:=h
  refine fq V J<|aP<|aA<|ay J<|aW J<|ay J<|aO J<|aO J<|C2 xq FG J (eo V) ?_;refine eJ FG J<|bT h fun r q_r h=>s (ko (args:=(fun(x:(List ap))=>[tD wG x])) (res:=xB) (f:=(fun(x:(List ap))=>f x)) (x:=((e):(List ap))) (D J) q_r ⟨(D J),d⟩)<|dd h J (fun h=>?_) (fun h=>?_)
  ·exact ay J<|bk J<|fa<|aC<|fa<|so h▸aQ J J
  ·refine bD<|dY V hN J ?_;exact bf (aT (ih (i+1) ⟨dO V,h⟩) (bj J))

def Pk ae f{R}(h:ju ae f=some R):dy aV 228 [ep (wG) ae,(ke aV QM nM (fun(x:(List ap))=>f x))] (gw R):=by
 exact eu Tryz.func228 J<|a8<|bE<|bp<|ay J<|aO J<|iw h Ux (Pa _ _) (eb J) fun r h=>s (gE (D J) hI)<|bk J<|so h▸aQ J J

def O7 v{R}(h:uL v=some R):dy aV 258 [tD be v] (gw R):=by
 exact eu Tryz.func258 J<|a8<|eG J<|bE<|bp<|a8<|eJ cO J<|iw h yp (qt _) (eb J) fun r h=>nW J<|bk J<|so h▸aQ J J

def O4 ae f{R}(h:jD ae f=some R):dy aV 264 [ep (be) ae,(ke aV LT nM (fun(x:ap)=>f x))] (bA R):=by
 refine eu Tryz.func264 J<|a8<|cC<|bp<|bm<|aO J<|cw Cn J<|s (bU hI)<|bp<|aA<|bt (k:=6) J fun hN=>bV ?_;refine aT (gO (bx:=fun ls i=>(ae.drop i=ls)/\fx f ls i=some R) (Of:=fun _ i=>[]) (Gf:=fun _ i=>[(0,ep (be) ae),(1,(ke aV LT nM (fun(x:ap)=>f x))),(7,nu ae),(8,bA (i:Int))]) (fun i h=>?_) (fun e tl ih i h=>?_) ae 0 ⟨J,h⟩) (bj J)
 ·obtain⟨V,h⟩:=h
  exact ft V J<|aH<|a8<|fZ<|so h▸aQ J J
 ·obtain⟨V,h⟩:=h
  refine fq V J<|aP<|aA<|ay J<|aW J<|ay J<|aO J<|aO J<|C2 Cn cO J (eo V) ?_;refine eJ cO J<|bT h fun r q_r h=>s (ko (args:=LT) (res:=xB) (f:=(fun(x:ap)=>f x)) (x:=((e):ap)) (D J) q_r ⟨(D J),d⟩)<|dd h J (fun h=>?_) (fun h=>?_)
  ·exact ay J<|bk J<|fa<|aC<|fa<|so h▸aQ J J
  ·refine bD<|dY V hN J ?_;exact bf (aT (ih (i+1) ⟨dO V,h⟩) (bj J))

def O6 ae f{R}(h:iP ae f=some R):dy aV 259 [ep (be) ae,(ke aV LT nM (fun(x:ap)=>f x))] (gw R):=by
 exact eu Tryz.func259 J<|a8<|bE<|bp<|ay J<|aO J<|iw h Un (O4 _ _) (eb J) fun r h=>s (gE (D J) hI)<|bk J<|so h▸aQ J J

def O9 r{R}(h:Dk r=some R):dy aV 249 [ep (be) r] (gw R):=by
 refine eu Tryz.func249 J<|a8<|bE<|bp<|a8<|s (bZ (show aI _ _ _ ((ke aV LT nM (fun(x:ap)=>uL x)))from(MU Uq fun x y h=>O7 _ h)))<|bp<|ay J<|cw Cn J<|s (gu (D J) hI)<|aO J<|bT h fun t q_t h=>ah J (cN J)<|ah J (cN J) ?_
 obtain⟨r1,h1t,h0t⟩:=og q_t
 have q_r1g:=fun W=>(h1t W).1
 exact ah J (fun X=>c7 Up (O6 _ _ (q_r1g X)) ⟨(bC J X),(bC J X),d⟩)<|ah J (xC J)<|s (cA (D J) (fun W=>(bC J W)) (fun W=>(h1t W).2) h0t)<|bk J<|so h▸aQ J J

def Pi r{R}(h:Dm r=some R):dy aV 230 [ep (be) r] (bA R):=by
 refine eu Tryz.func230 J<|a8<|cC<|bp<|bm<|aO J<|iw h Uw (O9 _) (eb J) fun r1 h=>s (fH (D J))<|dd h J (fun h=>?_) (fun h=>?_)
 ·exact a8<|fZ<|aC<|so h▸aQ J J
 ·exact ji<|a8<|fZ<|so h▸aQ J J

def Pj r{R}(h:zI r=some R):dy aV 229 [ep (be) r] (gw R):=by
 exact eu Tryz.func229 J<|a8<|bE<|bp<|ay J<|iw h UI (Pi _) (eb J) fun r1 h=>nW J<|bk J<|so h▸aQ J J

def Pt l{R}(h:DB l=some R):dy aV 197 [ep (wG) l] (gw R):=by
 refine eu Tryz.func197 J<|a8<|bE<|bp<|ay J<|cw xq J<|s (jL (D J) hI)<|aO J<|ah J (cN J)<|ah J (ml xq J)<|ah J (fun X=>gu (bC J X) hI)<|cB J<|aO J<|bT h fun t q_t h=>ah J (cN J) ?_
 obtain⟨r,h1t,h0t⟩:=og q_t
 have q_rg:=fun W=>(h1t W).1
 exact ah J (fun X=>c7 UK (Pk _ _ (q_rg X)) ⟨(bC J X),(MU UJ fun x y h=>Pj _ h),d⟩)<|ah J (xC J)<|s (cA (D J) (fun W=>(bC J W)) (fun W=>(h1t W).2) h0t)<|bk J<|so h▸aQ J J

def Pz b seq{R}(h:Bp b seq=some R):dy aV 155 [tD mI b,tD lL seq] (gw R):=by
 refine eu Tryz.func155 J<|a8<|eG J<|bE<|bp<|bm<|aO J<|s (ij (D J) hI)<|aO J<|bX J (cN J)<|bX J (fun X=>jL (bC J X) hI)<|ka J<|dd h J (fun h=>?_) (fun h=>?_)
 ·exact a8<|bE<|cj<|aC<|so h▸aQ J J
 ·refine ji<|bm<|bz xc nT yM J<|dd h J (fun h=>?_) (fun h=>?_)
  ·exact a8<|bz xd nU HB J<|cw xq J<|bM J<|aO J<|ah J (ca xb nS J J)<|ah J (b7 oA J J)<|ah J (cN J)<|ah J (fun X=>ii (bC J X) hI)<|ah J (fun X=>dx (bC J X) (bC J X))<|cB J<|bk J<|aC<|so h▸aQ J J
  ·refine ji<|a8<|bz xb nS oA J<|bM J<|aO J<|bT h fun t q_t h=>ah J (ca xd nU J J)<|ah J (b7 HB J J) ?_
   obtain⟨r,h1t,h0t⟩:=og q_t
   have q_rg:=fun W=>(h1t W).1
   exact ah J (fun X=>c7 U0 (Pt _ (q_rg X)) ⟨(bC J X),d⟩)<|s (cA (D J) (fun W=>(bC J W)) (fun W=>(h1t W).2) h0t)<|bk J<|so h▸aQ J J

def Ph a1 b{R}(h:Dl a1 b=some R):dy aV 231 [ep (be) a1,ep (be) b] (gw R):=by
 exact eu Tryz.func231 J<|a8<|bE<|bp<|ay J<|aO J<|iw h Uj (M6 _ _) (eb J) fun r h=>bk J<|so h▸aQ J J

def Ps a1 b{R}(h:FT a1 b=some R):dy aV 198 [ep (wG) a1,ep (wG) b] (gw R):=by
 exact eu Tryz.func198 J<|a8<|bE<|bp<|ay J<|aO J<|iw h Uk (M7 _ _ _) ⟨(D J),(D J),(MU UH fun x y h=>Ph _ _ h),d⟩ fun r h=>bk J<|so h▸aQ J J

def Py a1 b{R}(h:DA a1 b=some R):dy aV 156 [tD mI a1,tD mI b] (gw R):=by
 refine eu Tryz.func156 J<|a8<|eG J<|eG J<|bE<|bp<|a8<|bz xc nT yM J<|bz xc nT yM J<|s (EC Jd (D J) (D J))<|aO J<|ah J (ca xb nS J J)<|ah J (b7 oA J J)<|ah J (ca xb nS J J)<|ah J (b7 oA J J)<|ah J (fun X=>dx (bC J X) (bC J X))<|cB J<|aO J<|bT h fun t q_t h=>?_;refine ah J (ca xd nU J J)<|ah J (b7 HB J J)<|ah J (ca xd nU J J)<|ah J (b7 HB J J) ?_
 obtain⟨r,h1t,h0t⟩:=og q_t
 have q_rg:=fun W=>(h1t W).1
 exact ah J (fun X=>c7 UZ (Ps _ _ (q_rg X)) ⟨(bC J X),(bC J X),d⟩)<|s (cA (D J) (fun W=>(bC J W)) (fun W=>(h1t W).2) h0t)<|bk J<|so h▸aQ J J

def PG p{R}(h:sV p=some R):dy aV 115 [tD fL p] (bA R):=by
 refine eu Tryz.func115 J<|a8<|eG J<|cC<|bp<|a8<|bz EK rM o3 J<|iw h Vr (PA _) (eb J) fun r h=>aW J<|bm<|bz BK pS bS J<|bp<|aA ?_;refine a8<|bM J<|aW J<|iX h J (fun h=>?_) (fun h=>?_)
 ·refine av<|aO J<|aO J<|ah J (ca zf oo J J)<|ah J (b7 oA J J)<|ah J (kL J)<|cB J<|aO J<|bT h fun t q_t h=>ah J (ca qf gY J J)<|ah J (b7 Q4 J J)<|ah J (ca xa mT J J)<|ah J (b7 oA J J) ?_
  obtain⟨r1,h1t,h0t⟩:=og q_t
  have q_r1g:=fun W=>(h1t W).1
  refine ah J (fun X=>c7 Vq (Pz _ _ (q_r1g X)) ⟨(bC J X),(bC J X),d⟩)<|s (cA (D J) (fun W=>(bC J W)) (fun W=>(h1t W).2) h0t)<|gU J<|aS<|aF<|aH<|bm<|aO J<|s (fH (D J))<|dd h J (fun h=>?_) (fun h=>?_)
  ·exact a8<|fZ<|aC<|so h▸aQ J J
  ·exact ji<|a8<|fZ<|so h▸aQ J J
 ·refine a8<|bM J<|aW J<|iX h J (fun h=>?_) (fun h=>?_)
  ·refine av<|aO J<|aO J<|bT h fun t1 q_t1 h=>ah J (ca qf gY J J)<|ah J (b7 Q4 J J)<|ah J (fun X=>eh Q4 Wd Fm J) ?_
   obtain⟨r2,h1t1,h0t1⟩:=og q_t1
   have q_r2g:=fun W=>(h1t1 W).1
   refine ah J (fun X=>c7 Vp (Py _ _ (q_r2g X)) ⟨(bC J X),(bC J X),d⟩)<|s (cA (D J) (fun W=>(bC J W)) (fun W=>(h1t1 W).2) h0t1)<|aO J<|ah J (ca xa mT J J)<|ah J (b7 oA J J)<|ah J (fun X=>gE (bC J X) hI)<|cB J<|aO J<|ah J (ca xa mT J J)<|ah J (b7 oA J J)<|ah J (fun X=>gu (bC J X) hI)<|cB J<|aO J<|ah J (ca zf oo J J)<|ah J (b7 oA J J)<|ah J (ca xa mT J J)<|ah J (b7 oA J J)<|ah J (fun X=>ii (bC J X) hI)<|ah J (fun X=>gE (bC J X) (bC J X))<|cB J<|aO J<|ah J (ca zf oo J J)<|ah J (b7 oA J J)<|ah J (fun X=>gu (bC J X) hI) ?_;refine cB J<|gU J<|aS<|aF<|aH<|bm<|aO J<|s (fH (D J))<|dd h J (fun h=>?_) (fun h=>?_)
   ·exact a8<|fZ<|aC<|so h▸aQ J J
   ·exact ji<|a8<|fZ<|so h▸aQ J J
  ·refine av<|bE<|aS<|aF<|aH<|bm<|aO J<|s (fH (D J))<|dd h J (fun h=>?_) (fun h=>?_)
   ·exact a8<|fZ<|aC<|so h▸aQ J J
   ·exact ji<|a8<|fZ<|so h▸aQ J J

def PH m kind{R}(h:jO m kind=some R):dy aV 114 [bA kind,cH fS m] (gw R):=by
 refine eu Tryz.func114 J<|a8<|bE<|bp<|a8<|bz zd ve bS J<|s (gE (D J) hI)<|aO J<|ah J (ca zd ve J J)<|ah J (b7 bS J J)<|ah J (fun X=>ij (bC J X) hI)<|cB J<|aO J<|ah J (ca zb vc J J)<|ah J (fun X=>gG BK J pS J (bC J X))<|ah J (b7 bS J J)<|ah J (cN J)<|ah J (fun X=>dx (bC J X) (bC J X))<|cB J<|aO J ?_;refine bT h fun t q_t h=>ah J (ca zb vc J J)<|ah J (b7 Ks J J) ?_
 obtain⟨r,h1t,h0t⟩:=og q_t
 have q_rg:=fun W=>(h1t W).1
 exact ah J (fun X=>c7 VD (PG _ (q_rg X)) ⟨(bC J X),d⟩)<|ah J (kL J)<|s (cA (D J) (fun W=>(bC J W)) (fun W=>(h1t W).2) h0t)<|bk J<|so h▸aQ J J

def RO m{R}(h:xW m=some R):dy aV 58 [tD fS m] (gw R):=by
 refine eu Tryz.func58 J<|a8<|eG J<|bE<|bp<|a8<|s ((show b9 _ _ _ _ ((ke aV Fs nM (fun(x:Int)=>(jO m) x)))from uY (cts:=[cH fS m]) (caps:=[.tmp 1]) VF ⟨(D J),d⟩ (fun x y h=>PH _ _ h)))<|aW J<|bm<|bz w9 sX bS J<|bp<|aA<|a8<|bM J ?_;refine aW J<|iX h J (fun h=>?_) (fun h=>?_)
 ·refine a8<|bz zc vd bS J<|s (gE (D J) hI)<|aO J<|ah J (ca zc vd J J)<|ah J (b7 bS J J)<|ah J (fun X=>gu (bC J X) hI)<|cB J<|aO J<|bT h fun t q_t h=>ah J (ca BH ya J J)<|ah J (b7 qa J J) ?_
  obtain⟨r,h1t,h0t⟩:=og q_t
  have q_rg:=fun W=>(h1t W).1
  exact ah J (fun X=>c7 SN (IC _ (q_rg X)) ⟨(bC J X),d⟩)<|s (cA (D J) (fun W=>(bC J W)) (fun W=>(h1t W).2) h0t)<|bk J<|fa<|so h▸aQ J J
 ·refine gR (bx:=fun x=>nH m x=some R) (Of:=fun x=>[]) (Gf:=fun x=>[(1,cH fS m),(3,(ke aV Fs nM (fun(x:Int)=>(jO m) x))),(6,bA m.Kind),(22,gw x)]) (fun x h=>?_) (fun tV=>?_)
  ·skip
   refine iX h J (fun h=>?_) (fun h=>?_)
   ·exact a8<|bE<|cj<|fa<|so h▸aQ J J
   ·refine a8<|bM J<|aW J<|iX h J (fun h=>?_) (fun h=>?_)
    ·exact ay J<|bT h fun r1 q_r1 h=>s (ko (args:=LR) (res:=xB) (f:=(fun(x:Int)=>(jO m) x)) (x:=(((1:Int)):Int)) (D J) q_r1 ⟨hI,d⟩)<|bk J<|fa<|so h▸aQ J J
    ·refine a8<|bM J<|aW J<|iX h J (fun h=>?_) (fun h=>?_)
     ·exact ay J<|bT h fun r2 q_r2 h=>s (ko (args:=LR) (res:=xB) (f:=(fun(x:Int)=>(jO m) x)) (x:=(((2:Int)):Int)) (D J) q_r2 ⟨hI,d⟩)<|bk J<|fa<|so h▸aQ J J
     ·refine a8<|bM J<|aW J<|iX h J (fun h=>?_) (fun h=>?_)
      ·exact a8<|bz za vb yN J<|bM J<|aO J<|bX J (ca za vb J J)<|bX J (b7 yN J J)<|bX J (kL J)<|ka J<|bk J<|fa<|so h▸aQ J J
      ·exact bD<|aF<|aH<|a8<|bE<|cj<|so h▸aQ J J
  ·skip
   refine a8<|bM J<|aW J<|iX h J (fun h=>?_) (fun h=>?_)
   ·refine bD ?_;exact bP (tV (m.Kind==(2:Int)) h) (bj J)
   ·refine a8<|bM J<|aW J<|iX h J (fun h=>?_) (fun h=>?_)
    ·refine bD ?_;exact bP (tV (m.Kind==(6:Int)) h) (bj J)
    ·refine av<|bM J<|gU J<|aS ?_;exact bP (tV (m.Kind==(7:Int)) h) (bj J)

end Go.Proofs.YtdohlidddcgfjaaGreat

