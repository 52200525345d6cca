/- bR of this claim: P2. -/
import Derived.Test.YtdohlidddcgfjaaGreatFbT
import Derived.Test.YtdohlidddcgfjaaGreatFbP1
set_option linter.all false
namespace Go.Proofs.YtdohlidddcgfjaaGreat
open Go
set_option maxRecDepth 100000

def Na n{R}(h:kQ n=some R):ir aV 232 [K (.slice none 0 0),bA n] false bH 3 R:=by
 refine ir.of Tryz.func232 J J J fun w0 S0=>a8<|cz false bH 3<|s (bZ u5)<|bp ?_;refine LB (bx:=lC n=some R) (Of:=[]) (Gf:=[(0,K (.slice none 0 0)),(1,bA n)]) (fun h=>?_) (fun tV=>?_)
 ·skip
  refine LA (bx:=fun ae l c=>lB ae=some R) (Of:=fun ae l c=>[cM bH 3 l c ae]) (Gf:=fun ae l c=>[(0,pY l c ae)]) (fun ae l c h=>?_) (fun K1=>?_)
  ·skip
   exact ay J<|bk J<|so h▸lJ J J
  ·skip
   refine ay J<|aO J<|s (Dx er (D J))<|aO J<|s (Dw er (D J))<|s (ii (D J) (D J))<|s (ii (D J) (D J))<|aW J<|ay J<|s (jL (D J) hI)<|dd h J (fun h=>?_) (fun h=>?_)
   ·refine av<|aO J<|aO J<|s (Dx er (D J))<|s (F9 er bS (D J) (D J))<|aO J<|bT h fun u q_u h=>bT h fun mk q_mk h=>aR (GO (r:=bH) (x:=(0:Int)) bS J J J J er kz (fun _=>J) (D J) (D J) (MW q_u) q_mk) J fun i=>aO J<|s (Dw er (D J))<|bT h fun y q_y h=>s (mO er bS J (.head _) (D J) (D J) q_y)<|B7 q_y<|gU J<|aS ?_;exact bP (K1 y (i.h 0).1 (i.h 0).2 h) (bj J)
   ·refine bD<|NX false bH 3 ?_;exact bP (K1 p9 none 0 h) (bj J)
 ·skip
  refine ay J<|s (ij (D J) hI)<|dd h J (fun h=>?_) (fun h=>?_)
  ·refine av ?_;exact(nn h).elim
  ·refine bD<|ba ?_;exact bP (tV h) (bj J)
def Nc slices{R}(h:hU slices=some R):ir aV 204 [ep (nt) slices] false bH 3 R:=by
 refine ir.of Tryz.func204 J J J fun w0 S0=>a8<|cz false bH 3<|s (bZ u5)<|bp<|a8<|cC<|bp<|bm<|aO J<|cw zY J<|s (bU hI)<|bp<|aA<|bt (k:=9) J fun hN=>bV<|qy ?_;refine aT (vu (bx:=fun ls i size=>(slices.drop i=ls)/\iz slices ls size=some R) (Of:=fun _ i size=>[]) (Gf:=fun _ i size=>[(0,ep (nt) slices),(3,bA size),(9,ep (nt) slices),(10,nu slices),(11,bA (i:Int))]) (fun i size h=>?_) (fun e tl ih i size h=>?_) slices 0 (0:Int) ⟨J,h⟩) (bj J)
 ·obtain⟨V,h⟩:=h
  refine ft V J<|aH<|ay J<|uE h UG (Na _) ⟨hV,(D J),d⟩ fun r h l c=>aW J<|bm ?_;refine aO J<|cw zY J<|s (bU hI)<|bp<|aA<|bt (k:=25) J fun hN1=>bV ?_;refine aT (lS (bx:=fun ls1 i1 newslice l1 c1=>(slices.drop i1=ls1)/\iy ls1 newslice=some R) (Of:=fun _ i1 newslice l1 c1=>[cM bH 3 l1 c1 newslice]) (Gf:=fun _ i1 newslice l1 c1=>[(6,pY l1 c1 newslice),(25,ep (nt) slices),(26,nu slices),(27,bA (i1:Int))]) (fun i1 newslice l1 c1 h=>?_) (fun e1 tl1 ih1 i1 newslice l1 c1 h=>?_) slices 0 r l c ⟨J,h⟩) (bj J)
  ·obtain⟨hx1,h⟩:=h
   exact ft hx1 J<|aH<|ay J<|bk J<|so h▸lJ J J
  ·obtain⟨hx1,h⟩:=h
   refine fq hx1 J<|aP<|aA<|a8<|fP zY cF J (eo hx1)<|aW J<|av<|aO J<|aO J<|bT h fun newslice1 q_newslice1 h=>cU bS J J J J er J J (D J) (D J) q_newslice1 fun l2 c2=>?_;refine gU J<|aS<|dY hx1 hN1 J ?_;exact bf (aT (ih1 (i1+1) newslice1 l2 c2 ⟨dO hx1,h⟩) (bj J))
 ·obtain⟨V,h⟩:=h
  refine fq V J<|aP<|aA<|a8<|fP zY cF J (eo V)<|aW J<|ay J<|aO J<|cw er J ?_;refine s (fc (D J) (D J))<|aW J<|ay J<|s (ij (D J) hI)<|dd h J (fun h=>?_) (fun h=>?_)
  ·refine av ?_;exact(nn h).elim
  ·refine bD<|dY V hN J ?_;exact bf (aT (ih (i+1) (IntKind.i64.wrap (size+(e.length:Int))) ⟨dO V,h⟩) (bj J))
def Po slices{R}(h:hU slices=some R):dy aV 204 [ep (nt) slices] (nj R):=(Nc _ h).spec

def JQ tag{R}(h:pt tag=some R):dy aV 254 [bA tag] (bA R):=by
 refine eu Tryz.func254 J<|a8<|cC<|bp<|aP<|aA<|ay J<|bM J<|aO J<|bX J (cN J)<|bX J (kL J)<|ka J<|aW J<|iX h J (fun h=>?_) (fun h=>?_)
 ·exact a8<|fZ<|fa<|so h▸aQ J J
 ·refine ay J<|s (gE (D J) hI)<|aO J<|ah J (cN J)<|ah J (fun X=>gu (bC J X) hI)<|cB J<|aW J<|iX h J (fun h=>?_) (fun h=>?_)
  ·exact a8<|fZ<|fa<|so h▸aQ J J
  ·refine ay J<|s (gE (D J) hI)<|aO J<|ah J (cN J)<|ah J (fun X=>gu (bC J X) hI)<|cB J<|aW J<|iX h J (fun h=>?_) (fun h=>?_)
   ·exact a8<|fZ<|fa<|so h▸aQ J J
   ·exact bD<|aF<|aH<|a8<|fZ<|so h▸aQ J J

def Pc v{R}(h:uF v=some R):dy aV 239 [tD be v] (tD be R):=by
 refine eu Tryz.func239 J<|a8<|qx (D J) J fun b=>bw cO lK J fun b1=>bp<|bm<|aX 0 oU J<|s (aE bS J J mS (.tail _ (.head _)) (D J))<|bp ?_;refine D4 (bx:=fun v1=>jC v1=some R) (Of:=fun v1=>[Z be 104 b v1,Z be 104 b1 gh]) (Gf:=fun v1=>[(1,K (M b 0)),(2,K (M b1 0))]) (fun v1 h=>?_) (fun tV=>?_)
 ·skip
  exact aH<|a8<|s (aE cO J J bo (.head _) (D J))<|cu<|bG cO aB J<|bg 2 J<|cj<|ba<|so h▸Hf J cO J J J
 ·skip
  refine aP<|aA<|aP<|aA<|aP ?_;refine D4 (bx:=fun v2=>oF v2=some R) (Of:=fun v2=>[Z be 104 b v2,Z be 104 b1 gh]) (Gf:=fun v2=>[(1,K (M b 0)),(2,K (M b1 0))]) (fun v2 h=>?_) (fun K1=>?_)
  ·skip
   refine aH<|a8<|aX 0 oU J<|dV bS J tw J (D J) hI<|bp<|dh<|bF J<|aq<|bF J<|aq<|bY ?_;exact bP (tV (ap.mk (0:Int) v2.N v2.U v2.S) h) (bj J)
  ·skip
   refine aP ?_;refine LH (bx:=oE v=some R) (Of:=[Z be 104 b v,Z be 104 b1 gh]) (Gf:=[(1,K (M b 0)),(2,K (M b1 0))]) (fun h=>?_) (fun K2=>?_)
   ·skip
    refine aH<|av<|aX 1 pL J<|dV Mb J qT J (D J) hI<|aS<|aF ?_;exact bP (K1 (ap.mk v.Kind (0:Int) v.U v.S) h) (bj J)
   ·skip
    refine aP<|aA<|aP<|bm<|bM J<|aW J<|iX h J (fun h=>?_) (fun h=>?_)
    ·refine dh<|aq<|aq<|bY<|aH<|a8<|aX 1 pL J<|s (aE Mb J J po (.tail _ (.head _)) (D J))<|nW J<|aO J<|ah J (fun X=>oz 1 pL J J J)<|ah J (fun X=>aE Mb J J po (.tail _ (.head _)) (bC J X))<|ah J (zB J)<|cB J<|dd h J (fun h=>?_) (fun h=>?_)
     ·refine dh<|bF J<|aq<|bF J<|aq<|bF J<|aq<|bF J<|aq<|bY<|aj ?_;exact bP (tV v h) (bj J)
     ·refine bD<|aF<|aj ?_;exact bP (K2 h) (bj J)
    ·refine ji<|bm<|bM J<|aW J<|iX h J (fun h=>?_) (fun h=>?_)
     ·refine dh<|aq<|aq<|bF J<|aq<|bY<|aj ?_;exact bP (K2 h) (bj J)
     ·refine ji<|bm<|bM J<|aW J<|iX h J (fun h=>?_) (fun h=>?_)
      ·refine dh<|aq<|aq<|bF J<|aq<|bF J<|aq<|bY<|aj ?_;exact bP (K1 v h) (bj J)
      ·refine ji<|bm<|bM J<|aW J<|iX h J (fun h=>?_) (fun h=>?_)
       ·refine dh<|aq<|aq<|bF J<|aq<|bF J<|aq<|bF J<|aq<|bY<|aH ?_;refine gR (bx:=fun v3=>oD v3=some R) (Of:=fun v3=>[Z be 104 b v3,Z be 104 b1 gh]) (Gf:=fun v3=>[(1,K (M b 0)),(2,K (M b1 0))]) (fun v3 h=>?_) (fun K3=>?_)
        ·skip
         refine dh<|bF J<|aq<|bY ?_;exact bP (tV v3 h) (bj J)
        ·skip
         refine a8<|aX 3 yj J<|s (aE SS J J tJ (.tail _ (.head _)) (D J))<|s (JA AG (D J))<|s (gu (D J) hI)<|dd h J (fun h=>?_) (fun h=>?_)
         ·refine av<|aX 0 oU J<|cu<|dV bS J tw J (D J) hI<|aX 3 yj J<|dV SS J A4 J (D J) hS<|aS ?_;exact bP (K3 (ap.mk (0:Int) v.N v.U ([])) h) (bj J)
         ·refine bD<|aj ?_;exact bP (K3 v h) (bj J)
       ·refine ji<|a8<|bM J<|aW J<|iX h J (fun h=>?_) (fun h=>?_)
        ·refine dh<|aq<|bF J<|aq<|bF J<|aq<|bF J<|aq<|bF J<|aq<|bY<|aH<|a8<|aX 0 oU J<|cu<|dV bS J tw J (D J) hI<|aX 1 pL J<|dV Mb J qT J (D J) hI<|aX 2 EN J<|dV oA J A5 J (D J) hI<|bp<|dh ?_;refine bY ?_;exact bP (tV (ap.mk (0:Int) (0:Int) (0:Int) v.S) h) (bj J)
        ·refine ji<|dh<|bF J<|aq<|bF J<|aq<|bF J<|aq<|bF J<|aq<|bF J<|aq<|bY<|aj ?_;exact bP (tV v h) (bj J)

def qt v{R}(h:gi v=some R):dy aV 210 [tD be v] (bA R):=by
 refine eu Tryz.func210 J<|a8<|eG J<|cC<|bp<|bm<|eJ cO J<|iw h UA (Pc _) (eb J) fun r h=>s (eh cO M0 lK J)<|s (vH JW (D J) (D J))<|dd h J (fun h=>?_) (fun h=>?_)
 ·exact a8<|fZ<|aC<|so h▸aQ J J
 ·exact ji<|a8<|fZ<|so h▸aQ J J

def O3 v{R}(h:rt v=some R):dy aV 265 [tD be v] (gw R):=by
 exact eu Tryz.func265 J<|a8<|eG J<|bE<|bp<|a8<|eJ cO J<|iw h yp (qt _) (eb J) fun r h=>bM J<|aO J<|ah J (ca oU mS J J)<|ah J (b7 bS J J)<|ah J (zB J)<|cB J<|bk J<|so h▸aQ J J

def O5 n{R}(h:rU n=some R):dy aV 260 [tD bq n] (gw R):=by
 refine eu Tryz.func260 J<|a8<|eG J<|bE<|bp<|bm<|bz kU ff bS J<|bp<|aA<|a8<|bM J<|aW J<|iX h J (fun h=>?_) (fun h=>?_)
 ·exact a8<|bz vM pq cO J<|iw h Um (O3 _) (eb J) fun r h=>aO J<|ah J (ca rO mW J J)<|ah J (b7 bS J J)<|ah J (kL J)<|cB J<|bk J<|fa<|so h▸aQ J J
 ·refine a8<|bM J<|aW J<|iX h J (fun h=>?_) (fun h=>?_)
  ·exact a8<|bz vM pq cO J<|s (eh cO M0 lK J)<|s (EB JW (D J) (D J))<|aO J<|ah J (ca rO mW J J)<|ah J (b7 bS J J)<|ah J (fun X=>gE (bC J X) hI)<|cB J<|aO J<|ah J (ca rO mW J J)<|ah J (b7 bS J J)<|ah J (fun X=>ij (bC J X) hI)<|cB J<|bk J<|fa<|so h▸aQ J J
  ·exact bD<|aF<|aH<|a8<|bz vM pq cO J<|s (eh cO M0 lK J)<|s (EB JW (D J) (D J))<|aO J<|ah J (ca rO mW J J)<|ah J (b7 bS J J)<|ah J (kL J)<|cB J<|bk J<|so h▸aQ J J

def O8 e{R}(h:vl e=some R):dy aV 250 [tD cD e] (tT [nj R.1,gw R.2]):=by
 refine eu Tryz.func250 J<|a8<|eG J<|kb bH<|bE<|bp<|a8<|cz false bH 3<|s (bZ u5)<|cz false bH 3<|s (bZ u5)<|bp<|bm<|bz ra lk AS J<|cw sE J<|s (bU hI)<|aS ?_;refine aH<|aA<|bt (k:=15) J fun hN=>bV<|fD ?_;refine aT (Cc (bx:=fun ls i all l c open1 l1 c1=>(e.Nodes.drop i=ls)/\jP ls i all open1=some R) (Of:=fun _ i all l c open1 l1 c1=>[cM bH 3 l c all,cM bH 3 l1 c1 open1]) (Gf:=fun _ i all l c open1 l1 c1=>[(4,pY l c all),(5,pY l1 c1 open1),(15,ep (bq) e.Nodes),(16,nu e.Nodes),(17,bA (i:Int))]) (fun i all l c open1 l1 c1 h=>?_) (fun e1 tl ih i all l c open1 l1 c1 h=>?_) e.Nodes 0 p9 none 0 p9 none 0 ⟨J,h⟩) (bj J)
 ·obtain⟨V,h⟩:=h
  refine ft V J<|aH<|ay J<|aO J<|s (hD er (.tail _ (.head _)) (D J))<|bM J<|aO J<|ah J (cN J)<|ah J (fun X=>hD er (.head _) (bC J X))<|ah J (fun X=>gu (bC J X) hI)<|cB J ?_;exact gU J<|bk J<|df<|bJ 4 J<|bJ 84 J<|bJ 2 J<|fE 2 J<|ba<|ba<|so h▸ev J J J
 ·obtain⟨V,h⟩:=h
  refine fq V J<|aP<|aA<|ay J<|fP sE jd J (eo V)<|bw jd qO J fun b=>gU J<|bG jd aB J<|bg 7 J<|bp<|aP ?_;refine av<|bz kU ff bS J<|iw h Qt (JQ _) (eb J) fun r h=>aW J<|bm<|aO J<|s (ij (D J) hI)<|aO J<|bX J (cN J)<|bX J (cN J)<|bX J (fun X=>hD er (.tail _ (.head _)) (bC J X))<|bX J (fun X=>jL (bC J X) (bC J X))<|ka J<|aO J<|bT h fun t q_t h=>bX J (fun X=>AJ jd J J) ?_
  obtain⟨r1,h1t,h0t⟩:=og q_t
  have q_r1g:=fun W=>(h1t W).1
  refine bX J (fun X=>c7 Uo (O5 _ (q_r1g X)) ⟨(bC J X),d⟩)<|bX J (xC J)<|s (wW (D J) (fun W=>(bC J (y3 W))) (fun W=>(h1t W).2) h0t)<|dd h J (fun h=>?_) (fun h=>?_)
  ·exact a8<|kb bH<|bE<|cj<|aC<|fa<|aC<|fa<|ba<|ba<|so h▸ev J J J
  ·refine ji<|ay J<|aO J<|s (hD er (.tail _ (.head _)) (D J))<|aO J<|s (ii (D J) (D J))<|bT h fun y q_y h=>s (oe er bS J (.tail _ (.head _)) (D J) (D J) q_y)<|oW (.tail _ (.head _)) q_y fun hv=>aW J<|a8<|s (qE (r:=bH) (ys:=[z2,z2]) (xs:=[.const (.int .i64 (-1)),.const (.int .i64 (-1))]) AE bS J wl J J ⟨hI,hI,d⟩)<|bw (r:=(mg bH 2)) (x:=(List.replicate 2 (0:Int))) wl (fun _=>yu (r:=bH) 2 (fun _=>J) _) J fun b1=>bG wl aB J<|bp<|a8 ?_;refine aO J<|aW J<|bm<|aO J<|s (Jz er (.tail _ (.tail _ (.head _))) q_y (D J))<|s (bU hI)<|bp<|aA ?_
   have hN1:=hv.2
   refine bV<|lu<|lu ?_;refine aT (Cd (bx:=fun ls1 i1 first at1=>(y.drop i1=ls1)/\lp (jP tl) i e1 all open1 r ls1 i1 first at1=some R) (Of:=fun _ i1 first at1=>[cM bH 3 l c all,cM bH 3 l1 c1 open1,Z (mg bH 2) 209 b1 at1]) (Gf:=fun _ i1 first at1=>[(4,pY l c all),(5,pY l1 c1 open1),(6,bA (i:Int)),(7,cH bq e1),(8,bA r),(10,K (M b1 0)),(11,bA first),(15,ep (bq) e.Nodes),(16,nu e.Nodes),(17,bA (i:Int)),(46,K (mf 1 l1 c1 (IntKind.i64.wrap ((open1.length:Int)-r)).toNat y.length)),(47,nu y),(48,bA (i1:Int))]) (fun i1 first at1 h=>?_) (fun e2 tl1 ih1 i1 first at1 h=>?_) y 0 (i:Int) ([z2,z2]) ⟨J,h⟩) (bj J)
   ·obtain⟨hx1,h⟩:=h
    refine ft hx1 J<|aH<|bm<|s (aE wl J J bo (.tail _ (.tail _ (.head _))) (D J))<|bz Am BA bS J<|bz Al Bz bS J<|s (qE (r:=bH) (ys:=[e1.L,e1.R]) (xs:=[.tmp 65,.tmp 67]) AE bS J wl J J ⟨(D J),(D J),d⟩)<|s (vH Qq (D J) (D J))<|aS ?_;refine aH<|iX h J (fun h=>?_) (fun h=>?_)
    ·exact a8<|kb bH<|bE<|cj<|aC<|fa<|aC<|fa<|ba<|ba<|ba<|so h▸ev J J J
    ·refine ji<|ay J<|aO J<|s (aY (r:=bH) (ys:=[first]) (xs:=[.tmp 71]) er bS J J J J J ⟨(D J),d⟩)<|bT h fun all1 q_all1 h=>cU bS J J J J er J J (D J) (D J) q_all1 fun l2 c2=>aW J<|av<|aO J<|aO J<|s (hD er (.tail _ (.head _)) (D J))<|aO J<|s (ii (D J) (D J))<|bT h fun y1 q_y1 h=>s (mO er bS J (.tail _ (.head _)) (D J) (D J) q_y1)<|aO J<|s (aY (r:=bH) (ys:=[(i:Int)]) (xs:=[.tmp 80]) er bS J J J J J ⟨(D J),d⟩)<|cu<|B7 q_y1 ?_;refine bT h fun open2 q_open2 h=>cU bS J J J J er J J (D J) (D J) q_open2 fun l3 c3=>gU J<|aS<|dY V hN J<|aG<|ba<|aj ?_;exact bf (aT (ih (i+1) all1 l2 c2 open2 l3 c3 ⟨dO V,h⟩) (bj J))
   ·obtain⟨hx1,h⟩:=h
    refine fq hx1 J<|aP<|aA<|ay J<|s (wu er bS J (.tail _ (.head _)) q_y (D J) (D J) (eo hx1))<|s (lP (r:=bH) (i:=((IntKind.i64.wrap ((open1.length:Int)-r))+(i1:Int))) (foff:=0) bS J J bo J (.tail _ (.head _)) (wK q_y (eo hx1)).1 (D J))<|gU J<|aW J<|bT h fun e3 q_e3 h=>bT h fun e4 q_e4 h=>bT h fun ar q_ar h=>?_
    refine ic 10 [tc (bA (i1:Int)),tc (bA e2),tc (bA first),tc (pY l c all),tc (bA e2),tc (K (xg l (e2.toNat*1+0))),tc (bA e3),tc (bA (min first e3)),tc (K (M b1 ((i1:Int).toNat*1))),tc (AW)] [false,false,false,false,false,false,false,false,false,true] [fun _=>[cM bH 3 l c all,cM bH 3 l1 c1 open1,Z (mg bH 2) 209 b1 at1],fun sg=>[Z (mg bH 2) 209 b1 ar,cM bH 3 l c all,cM bH 3 l1 c1 open1]] J mixed J J J J J
     ⟨⟨[⟨12,fun _=>tD bH (i1:Int),none⟩],_,0,0,J,⟨(fun _=>J),d⟩,J,J,J,J,J,fun _ sg _ _=>ac J (m1 J)⟩,
     ⟨⟨[⟨13,fun _=>tD bH e2,none⟩],_,0,0,J,⟨(fun _=>J),d⟩,J,J,J,J,J,fun _ sg _ _=>ac J (m1 J)⟩,
     ⟨⟨[⟨11,fun _=>tD bH first,none⟩],_,0,1,J,⟨(fun _=>J),d⟩,J,J,J,J,J,fun _ sg _ _=>ac J (m1 J)⟩,
     ⟨⟨[⟨4,fun _=>K (an l c all.length),none⟩],_,0,1,J,⟨(fun _=>J),d⟩,J,J,J,J,J,fun _ sg _ _=>ac J (m1 J)⟩,
     ⟨⟨[⟨13,fun _=>tD bH e2,none⟩],_,0,1,J,⟨(fun _=>J),d⟩,J,J,J,J,J,fun _ sg _ _=>ac J (m1 J)⟩,
     ⟨⟨[⟨56,fun _=>K (an l c all.length),some 3⟩,⟨57,fun _=>tD bH e2,some 4⟩],_,0,1,J,⟨(fun _=>J),(fun _=>J),d⟩,J,J,J,J,J,AM (fun sg=>ac J (gy er bS (.head _) (D J) (D J) q_e3)) (mC (fun sg=>ac J (gy er bS (.tail _ (.head _)) (D J) (D J) q_e3)))⟩,
     ⟨⟨[⟨58,fun _=>K (xg l (e2.toNat*1+0)),some 5⟩],_,0,1,J,⟨(fun _=>J),d⟩,J,J,J,J,J,AM (fun sg=>ac J (lP (r:=bH) (i:=e2) (foff:=0) bS J J bo J (.head _) q_e3 (D J))) (mC (fun sg=>ac J (lP (r:=bH) (i:=e2) (foff:=0) bS J J bo J (.tail _ (.head _)) q_e3 (D J))))⟩,
     ⟨⟨[⟨55,fun _=>tD bH first,some 2⟩,⟨59,fun _=>tD bH e3,some 6⟩],_,0,1,J,⟨(fun _=>J),(fun _=>J),d⟩,J,J,J,J,J,fun _ sg _ _=>ac J (OH (D J) (D J))⟩,
     ⟨⟨[⟨10,fun _=>K (M b1 0),none⟩,⟨53,fun _=>tD bH (i1:Int),some 0⟩],_,0,0,J,⟨(fun _=>J),(fun _=>J),d⟩,J,J,J,J,J,mC (fun sg=>ac J (iC AE bS (.tail _ (.tail _ (.head _))) (D J) (D J) q_e4))⟩,
     ⟨⟨[⟨61,fun _=>K (M b1 ((i1:Int).toNat*1)),some 8⟩,⟨54,fun _=>tD bH e2,some 1⟩],_,J,⟨(fun _=>J),(fun _=>J),d⟩,J,J,J,fun sg=>cm J (EffOK.fr2 (IQ bS J q_e4 (so q_ar) (D J) (D J)))⟩,
     d⟩⟩⟩⟩⟩⟩⟩⟩⟩⟩ (fun sg=>?_)
    refine(show RG _ _ _ _ [_,_,_] _ from ?_);refine gU J<|aS<|dY hx1 hN1 J<|aG<|aG ?_;exact bf (aT (ih1 (i1+1) (min first e3) ar ⟨dO hx1,h⟩) (bj J))

def JR e{R}(h:re e=some R):dy aV 233 [tD cD e] (bA R):=by
 refine eu Tryz.func233 J<|a8<|eG J<|cC<|bp<|bm<|eJ kX J<|iw h Uv (O8 _) (eb J) fun r h=>aO J<|eF J J<|eF J J<|gU J<|aW J<|ay J<|s (fH (D J)) ?_;refine dd h J (fun h=>?_) (fun h=>?_)
 ·exact a8<|fZ<|aC<|so h▸aQ J J
 ·exact ji<|a8<|fZ<|so h▸aQ J J

def RX(l:Option Nat)(c:Nat) ae{R}(h:jk ae=some R):bd aV 252 [pY l c ae] [cM bH 3 l c ae] (fun i:OI=>pY (i.h 0).1 (i.h 0).2 R) (fun i=>[cM bH 3 (i.h 0).1 (i.h 0).2 R]):=by
 refine bd.of Tryz.func252 J J J fun w0 S0=>a8<|cz false bH 3<|s (bZ u5)<|bp<|bm<|aO J<|s (hD er (.tail _ (.head _)) (D J))<|s (ij (D J) hI)<|dd h J (fun h=>?_) (fun h=>?_)
 ·exact ay J<|bk J<|aC<|ba<|so h▸bB J (oi l c) J J (fun _ _ h=>h)
 ·refine ji<|bm<|cC<|bp<|aA<|yC (.tail _ (.head _)) fun hN=>bV<|qy ?_;refine aT (gO (bx:=fun ls i=>(ae.drop i=ls)/\ei ae ls i=some R) (Of:=fun _ i=>[cM bH 3 l c ae]) (Gf:=fun _ i=>[(0,pY l c ae),(3,bA (i:Int))]) (fun i h=>?_) (fun e tl ih i h=>?_) (ae.drop (1)) 1 ⟨J,h⟩) (bj J)
  ·obtain⟨V,h⟩:=h
   exact d8<|bm<|aO J<|aO J<|s (hD er (.head _) (D J))<|nw J<|bp<|yE (D J) (Qs V)<|dh<|aq<|aq<|bY<|aH<|ay J<|bk J<|so h▸bB J (oi l c) J J (fun _ _ h=>h)
  ·obtain⟨V,h⟩:=h
   refine d8<|bm<|aO J<|aO J<|s (hD er (.head _) (D J))<|nw J<|bp<|yD (D J) (Nw V)<|ji<|aP<|aA<|aP<|bT h fun e1 q_e1 h=>?_
   refine jV (ts:=[_,_,_,_,_,_,_,_,_,_]) mixed J J
    ⟨gx J J,
    ⟨gx J J,
    ⟨jz 16 0 17 1 J J J (gy er bS (.head _) (D J) (D J) (eo V)),
    ⟨fm 18 2 J J (lP (r:=bH) (i:=(i:Int)) (foff:=0) bS J J bo J (.head _) (eo V) (D J)),
    ⟨gx J J,
    ⟨gx J J,
    ⟨fm 21 5 J J (ii (D J) hI),
    ⟨jz 20 4 22 6 J J J (gy er bS (.head _) (D J) (D J) q_e1),
    ⟨fm 23 7 J J (lP (r:=bH) (i:=(IntKind.i64.wrap ((i:Int)-(1:Int)))) (foff:=0) bS J J bo J (.head _) q_e1 (D J)),
    ⟨jz 19 3 24 8 J J J (dx (D J) (D J)),
    d⟩⟩⟩⟩⟩⟩⟩⟩⟩⟩ ?_
   refine aH<|iX h J (fun h=>?_) (fun h=>?_)
   ·refine ay J<|aO J<|bT h fun y q_y h=>s (oe er bS J (.head _) (D J) (D J) q_y)<|oW (.head _) q_y fun hv=>aW J<|bm<|cC<|bp<|aA<|bV ?_;refine aT (Ke (bx:=fun k1 i1 s1 k=>(y.length-i1=k1)/\dD i y k1 i1 s1 k=some R) (Of:=fun _ i1 s1 k=>[cM bH 3 l c s1]) (Gf:=fun _ i1 s1 k=>[(0,pY l c s1),(3,bA k),(4,K (mf 1 l c (i:Int).toNat y.length)),(5,bA (i1:Int))]) (fun i1 s1 k h=>?_) (fun k2 ih1 i1 s1 k h=>?_) (y.length-1) 1 ae (i:Int) ⟨J,h⟩) (bj J)
    ·obtain⟨hx1,h⟩:=h
     refine d8<|bm<|aO J<|aO J<|s (Jy er hv.1 (D J))<|nw J<|bp<|yE (D J) (TA hx1)<|dh<|aq<|aq<|bY<|aH<|ay J<|aO J<|bT h fun y1 q_y1 h=>s (oe er bS J (.head _) (D J) (D J) q_y1)<|oW (.head _) q_y1 fun hv1=>bT h fun cl q_cl h=>?_;exact Lw bS J J er (fun _=>J) J q_y1 (D J) (so q_cl)<|qH (DQ q_y1 (so q_cl)) 0 J<|qH (DQ q_y1 (so q_cl)) 54 J<|bp<|ay J<|aO J<|bT h fun y2 q_y2 h=>s (mO er bS J (.head _) (D J) (D J) q_y2)<|B7 q_y2<|bk J<|fa<|aC<|fa<|so h▸bB J (oi l c) J J (fun _ _ h=>h)
    ·obtain⟨hx1,h⟩:=h
     refine d8<|bm<|aO J<|aO J<|s (Jy er hv.1 (D J))<|nw J<|bp<|yD (D J) (Tz hx1)<|ji<|aP<|aA<|aP<|bT h fun e3 q_e3 h=>bT h fun e4 q_e4 h=>?_
     refine jV (ts:=[_,_,_,_,_,_,_,_,_,_]) mixed J J
      ⟨gx J J,
      ⟨gx J J,
      ⟨jz 35 0 36 1 J J J (sn er bS J (.head _) (yR q_y) (D J) (D J) q_e3),
      ⟨fm 37 2 J J (lP (r:=bH) (i:=((i:Int)+(i1:Int))) (foff:=0) bS J J bo J (.head _) (vK q_e3).2.2 (D J)),
      ⟨gx J J,
      ⟨gx J J,
      ⟨fm 40 5 J J (ii (D J) hI),
      ⟨jz 39 4 41 6 J J J (sn er bS J (.head _) (yR q_y) (D J) (D J) q_e4),
      ⟨fm 42 7 J J (lP (r:=bH) (i:=((i:Int)+(IntKind.i64.wrap ((i1:Int)-(1:Int))))) (foff:=0) bS J J bo J (.head _) (vK q_e4).2.2 (D J)),
      ⟨jz 38 3 43 8 J J J (jm (D J) (D J)),
      d⟩⟩⟩⟩⟩⟩⟩⟩⟩⟩ ?_
     refine aH<|iX h J (fun h=>?_) (fun h=>?_)
     ·refine ay J<|aO J<|aO J<|aO J<|bT h fun e5 q_e5 h=>s (sn er bS J (.head _) (yR q_y) (D J) (D J) q_e5)<|s (lP (r:=bH) (i:=((i:Int)+(i1:Int))) (foff:=0) bS J J bo J (.head _) (vK q_e5).2.2 (D J))<|bT h fun e6 q_e6 h=>s (gy er bS (.head _) (D J) (D J) q_e6)<|bT h fun st q_st h=>zn bS J aB J q_e6 (so q_st) (D J) (D J)<|qH (vA (so q_st)) 0 J<|qH (vA (so q_st)) 45 J<|bp<|av<|aO J<|s (fc (D J) hI)<|gU J<|aS<|aF<|aH ?_;refine av<|aO J<|s (Ag (Rr hx1 (TC hv.2)) (D J) hI)<|gU J<|aS ?_;exact bf (aT (ih1 (i1+1) st (IntKind.i64.wrap (k+(1:Int))) ⟨Rq hx1,h⟩) (bj J))
     ·refine bD<|aF<|aH<|av<|aO J<|s (Ag (Rr hx1 (TC hv.2)) (D J) hI)<|gU J<|aS ?_;exact bf (aT (ih1 (i1+1) s1 k ⟨Rq hx1,h⟩) (bj J))
   ·refine bD<|S6 V hN J ?_;exact bf (aT (ih (i+1) ⟨dO V,h⟩) (bj J))

end Go.Proofs.YtdohlidddcgfjaaGreat

