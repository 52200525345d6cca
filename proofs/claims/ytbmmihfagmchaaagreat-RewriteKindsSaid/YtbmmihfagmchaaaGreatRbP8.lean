/- cP of this claim: P8. -/
import Derived.Test.YtbmmihfagmchaaaGreatRbT
import Derived.Test.YtbmmihfagmchaaaGreatRbP7
set_option linter.all false
namespace Go.Proofs.YtbmmihfagmchaaaGreat
open Go
set_option maxRecDepth 100000

def MB c n parts{R}(h:gZ c n parts=some R):cI bk 147 [H ap n,gP (ah) parts,bw vA c] (tT [H ah R.1,cA R.2]):=by
 refine eC Tryz.func147 M<|aV<|dn M<|aC aX cF M fun b=>da<|cb<|bm<|ca lv ep cn M<|dg M<|dq h M (fun h=>?_) (fun h=>?_)
 ·exact aV<|bA hU M<|ca oW gY cn M<|cy h fun e q_e h=>yw lJ aX M q_e<|ca dk cE iY M<|q5 h GE (uV _) (cm M) fun r h l c1=>hD<|mW 16 M<|K (bP (y:=(⟨r⟩:ai)) aX u9 cF (⟨_,_,_,_,_,M,qi,M,(mD (D M)),M⟩))<|aS<|aO aX ae M<|fK<|au<|aI 5 M<|aM<|so h▸bH M M ⟨bg aX M M M,aP M,aQ⟩
 ·exact ko<|aV<|bA eY M<|bu M<|eg h NT (Hr _ _) (cm M) fun r1 h=>aO aX ae M<|fK<|aI 5 M<|so h▸bH M M ⟨bg aX M M M,aP M,aQ⟩

def MM e l{R}(h:w9 e l=some R):cI bk 124 [H ah e,gP (ah) l] (tT [H ah R.1,cA R.2]):=by
 refine eC Tryz.func124 M<|aV<|dn M<|dn M<|aC aX cF M fun b=>da<|cb<|aV<|bA aX M<|fh (r:=ah) (ys:=[e]) (xs:=[.tmp 14]) lJ aX M M M M M ⟨(D M),aQ⟩ M fun l1 c=>bA hU M<|cy h fun l2 q_l2 h=>dm aX M M M M lJ M M (D M) (D M) q_l2 fun l3 c1=>hD<|mW 17 M<|eg h NU (Hs _) ⟨(mD (D M)),aQ⟩ fun r h=>bu M<|bS M M<|bS M M<|jm M ?_;refine aT M<|bm<|bu M<|jS M<|dq h M (fun h=>?_) (fun h=>?_)
 ·exact aV<|K (bP aX u9 cF M)<|bu M<|aS<|aO aX ae M<|bF M<|au<|aI 4 M<|aM<|so h▸bH M M ⟨bg aX M M M,aP M,aQ⟩
 ·refine ko<|bm<|bA aX M<|q5 h Po (C3 _) (cm M) fun r1 h l4 c2=>K (eU fS (.head _) (D M))<|K (cj hI)<|cb<|av<|fR (.head _) fun hN=>ci<|cX<|oz ?_;refine aN (jh (h3:=fun ls i x=>(r1.drop i=ls)/\pH e l ls x=some R) (Of:=fun _ i x=>[fi cB 3 l4 c2 r1,bx ah 27 b x]) (Gf:=fun _ i x=>[(2,bw ah e),(3,bw vA l),(4,tV (ax b 0)),(26,sO l4 c2 r1),(27,jq r1),(28,cA (i:Int))]) (fun i x h=>?_) (fun e1 tl ih i x h=>?_) r1 0 kp ⟨M,h⟩) (bv M)
  ·obtain⟨I,h⟩:=h
   refine eQ I M<|aB<|aV<|da<|cb<|bm<|ca dk cE iY M<|c9 gp M ?_;refine K (cj hI)<|cb<|av<|bE (k:=39) M fun hN1=>ci<|oz ?_;refine aN (jh (h3:=fun ls1 i1 n=>(e.Nodes.drop i1=ls1)/\km e l ls1 n=some R) (Of:=fun _ i1 n=>[bx ah 27 b x]) (Gf:=fun _ i1 n=>[(2,bw ah e),(3,bw vA l),(4,tV (ax b 0)),(10,cA n),(39,gP (ap) e.Nodes),(40,jq e.Nodes),(41,cA (i1:Int))]) (fun i1 n h=>?_) (fun e2 tl1 ih1 i1 n h=>?_) e.Nodes 0 (0:Int) ⟨M,h⟩) (bv M)
   ·obtain⟨hx1,h⟩:=h
    refine eQ hx1 M<|aB<|bm<|bu M<|K (s4 (D M) hI)<|dq h M (fun h=>?_) (fun h=>?_)
    ·exact aV<|K (bP aX u9 cF M)<|aO aX ae M<|fK<|au<|aI 4 M<|so h▸bH M M ⟨bg aX M M M,aP M,aQ⟩
    ·exact ko<|aV<|bA aX M<|K ((show bR _ _ _ _ ((kq bk Lx Lu (fun(x:aj×(List ai))=>(gZ l) x.1 x.2)))from pD (cts:=[bw vA l]) (caps:=[.tmp 3]) Q9 ⟨(D M),aQ⟩ (fun x y h=>MB _ _ _ h)))<|eg h Ra (MC _ _) (cm M) fun r2 h=>bS M M<|bS M M<|aO aX ae M<|bF M<|aI 4 M<|so h▸bH M M ⟨bg aX M M M,aP M,aQ⟩
   ·obtain⟨hx1,h⟩:=h
    refine eP hx1 M<|aJ<|av<|aV<|iq gp eY M (fz hx1)<|aC eY ip M fun b1=>aO eY ae M<|aD 12 M<|cb<|aY M ?_;refine K (lr (D M) hI)<|aT M<|aV<|ca lv ep cn M<|dg M<|dq h M (fun h=>?_) (fun h=>?_)
    ·refine aG<|bu M<|bA hU M<|ca oW gY cn M<|cy h fun e3 q_e3 h=>yw lJ aX M q_e3<|ca dk cE iY M<|c9 gp M<|K (fN (D M) hI)<|K (lr (D M) (D M))<|jm M<|bq<|dQ hx1 hN1 M ?_;exact bj (aN (ih1 (i1+1) (IntKind.i64.wrap ((IntKind.i64.wrap (n+(1:Int)))+(IntKind.i64.wrap ((e3.Nodes.length:Int)-(1:Int))))) ⟨dC hx1,h⟩) (bv M))
    ·refine cg<|dQ hx1 hN1 M ?_;exact bj (aN (ih1 (i1+1) (IntKind.i64.wrap (n+(1:Int))) ⟨dC hx1,h⟩) (bv M))
  ·obtain⟨I,h⟩:=h
   refine eP I M<|aJ<|av<|aV<|K (bW fS cn (.head _) (D M) (D M) (fz I))<|K (dd (r:=cB) (i:=(i:Int)) (foff:=0) cn M M bN M (.head _) (fz I) (D M))<|aT M<|aY M<|bA hU M<|c9 lJ M ?_;refine K (gz (D M) (D M))<|dq h M (fun h=>?_) (fun h=>?_)
   ·exact aV<|K (bP aX u9 cF M)<|aS<|aO aX ae M<|fK<|eX<|au<|eX<|aI 4 M<|aM<|so h▸bH M M ⟨bg aX M M M,aP M,aQ⟩
   ·refine cg<|dQ I hN M ?_;exact bj (aN (ih (i+1) x ⟨dC I,h⟩) (bv M))

def OU s f{R}(h:ei s f=some R):cI bk 75 [gP (ah) s,(kq bk DB rG (fun(x:ai)=>f x))] (cA R):=by
 refine eC Tryz.func75 M<|aV<|da<|cb<|bm<|bu M<|c9 lJ M<|K (cj hI)<|cb<|av<|bE (k:=6) M fun hN=>ci ?_;refine aN (kX (h3:=fun ls i=>(s.drop i=ls)/\cV f ls i=some R) (Of:=fun _ i=>[]) (Gf:=fun _ i=>[(0,gP (ah) s),(1,(kq bk DB rG (fun(x:ai)=>f x))),(7,jq s),(8,cA (i:Int))]) (fun i h=>?_) (fun e tl ih i h=>?_) s 0 ⟨M,h⟩) (bv M)
 ·obtain⟨I,h⟩:=h
  exact eQ I M<|aB<|aV<|fK<|so h▸bZ M M
 ·obtain⟨I,h⟩:=h
  refine eP I M<|aJ<|av<|aY M<|aT M<|aY M<|bu M<|bu M<|yw lJ aX M (fz I) ?_;refine bA aX M<|cy h fun r q_r h=>K (mQ (args:=DB) (res:=Fv) (f:=(fun(x:ai)=>f x)) (x:=((e):ai)) (D M) q_r ⟨(D M),aQ⟩)<|dq h M (fun h=>?_) (fun h=>?_)
  ·exact aY M<|bF M<|eX<|au<|eX<|so h▸bZ M M
  ·refine cg<|dQ I hN M ?_;exact bj (aN (ih (i+1) ⟨dC I,h⟩) (bv M))

def Ks s f{R}(h:bM s f=some R):cI bk 48 [gP (ah) s,(kq bk DB rG (fun(x:ai)=>f x))] (gM R):=by
 exact eC Tryz.func48 M<|aV<|cR<|cb<|aY M<|bu M<|eg h Sk (OU _ _) (cm M) fun r h=>K (gz (D M) hI)<|bF M<|so h▸bZ M M

def OR t x{R}(h:eE t x=some R):cI bk 87 [H an t,gM x] (tT [H an R.1,cA R.2]):=by
 refine eC Tryz.func87 M<|aV<|dn M<|aC br eG M fun b=>da<|cb<|aV<|ca lu gG tE M<|cy h fun e q_e h=>K (bn m8 br M (D M) hI q_e)<|bA br M<|aC br eG M fun b1=>aO br ae M<|aD 6 M<|cb<|bm<|oE iy dP M ?_;refine ca nk fX cn M<|jS M<|bu M<|cy h fun t1 q_t1 h=>bL M (gR iy dP M M)<|bL M (fun T=>iN kM M gX M (dp M T))<|bL M (gQ hU M M) ?_
 obtain⟨r,h1t1,h0t1⟩:=og q_t1
 have q_rg:=fun V=>(h1t1 V).1
 refine bL M (fun T=>ce QR (Ks _ _ (q_rg T)) ⟨(dp M T),(OJ Rm fun x y h=>MN _ h),aQ⟩)<|K (kD (D M) (fun V=>(dp M (xO V))) (fun V=>(h1t1 V).2) h0t1)<|dq h M (fun h=>?_) (fun h=>?_)
 ·exact aV<|bA br M<|aO br ae M<|fK<|au<|aI 4 M<|so h▸bH M M ⟨bg br M M M,aP M,aQ⟩
 ·refine ko<|aV<|bC false ah 27<|K (bz sD)<|cb<|bm<|oE iy dP M<|ca kM gX hU M<|c9 lJ M<|K (cj hI)<|cb<|av<|bE (k:=29) M fun hN=>ci ?_;refine aN (mX (h3:=fun ls i items l c x1=>(t.root.Items.drop i=ls)/\fb t e ls items x1=some R) (Of:=fun _ i items l c x1=>[fi ah 27 l c items,bx an 87 b x1]) (Gf:=fun _ i items l c x1=>[(2,bw an t),(4,tV (ax b 0)),(6,bw an e),(7,sO l c items),(29,gP (ah) t.root.Items),(30,jq t.root.Items),(31,cA (i:Int))]) (fun i items l c x1 h=>?_) (fun e1 tl ih i items l c x1 h=>?_) t.root.Items 0 vB none 0 oC ⟨M,h⟩) (bv M)
  ·obtain⟨I,h⟩:=h
   refine eQ I M<|aB<|aY M<|hD<|mW 7 M<|mW 51 M<|K (bP (y:=(⟨(5:Int),(0:Int),(0:Int),(0:Int),[],false,kp,[],[],items,[],(0:Int)⟩:aa)) dR EL io (⟨_,_,_,_,_,M,lO,M,hI,⟨_,_,_,_,_,M,zX,M,(mD (D M)),M⟩⟩))<|ca lu gG tE M<|cy h fun e2 q_e2 h=>K (bn m8 br M (D M) hI q_e2) ?_;exact bA br M<|K (aR (r:=an) (ys:=[e2]) (xs:=[.tmp 56]) m8 br M M M M M ⟨(D M),aQ⟩)<|eg h KW (AH _ _) (cm M) fun r1 h=>bS M M<|bS M M<|eg h KZ (C7 _ _) (cm M) fun r2 h=>bS M M<|bS M M<|aS<|aO br ae M<|bF M<|aI 4 M<|aM<|so h▸bH M M ⟨bg br M M M,aP M,aQ⟩
  ·obtain⟨I,h⟩:=h
   refine eP I M<|aJ<|av<|aV<|iq lJ aX M (fz I)<|aC aX cF M fun b2=>aO aX ae M<|aD 9 M<|cb<|aV<|bA aX M ?_;refine oE iy dP M<|ca kM gX hU M<|eg h Rl (MM _ _) (cm M) fun r3 h=>bu M<|bS M M<|bS M M<|aC aX cF M fun b3=>aO aX ae M<|aD 10 M<|aT M<|bm<|bu M<|jS M<|dq h M (fun h=>?_) (fun h=>?_)
   ·exact aV<|bA br M<|aS<|aO br ae M<|fK<|au<|eX<|au<|eX<|aI 4 M<|aM<|so h▸bH M M ⟨bg br M M M,aP M,aQ⟩
   ·refine ko<|aG<|bu M<|bA aX M<|K (aR (r:=ah) (ys:=[r3.1]) (xs:=[.tmp 47]) lJ aX M M M M M ⟨(D M),aQ⟩)<|cy h fun items1 q_items1 h=>dm aX M M M M lJ M M (D M) (D M) q_items1 fun l1 c1=>jm M<|bq<|dQ I hN M ?_;exact bj (aN (ih (i+1) items1 l1 c1 x1 ⟨dC I,h⟩) (bv M))

def OQ t x{R}(h:eI t x=some R):cI bk 88 [H an t,gM x] (tT [H an R.1,cA R.2]):=by
 refine eC Tryz.func88 M<|aV<|dn M<|aC br eG M fun b=>da<|cb<|aV<|ca lu gG tE M<|cy h fun e q_e h=>K (bn m8 br M (D M) hI q_e)<|bA br M<|aC br eG M fun b1=>aO br ae M<|aD 6 M<|cb<|bm<|oE iy dP M ?_;refine ca nk fX cn M<|dg M<|dq h M (fun h=>?_) (fun h=>?_)
 ·exact aV<|bA br M<|aO br ae M<|fK<|au<|aI 4 M<|so h▸bH M M ⟨bg br M M M,aP M,aQ⟩
 ·refine ko<|bm<|oE iy dP M<|ca nk fX cn M<|jS M<|dq h M (fun h=>?_) (fun h=>?_)
  ·exact aV<|bA br M<|aO br ae M<|fK<|au<|aI 4 M<|so h▸bH M M ⟨bg br M M M,aP M,aQ⟩
  ·refine ko<|aV<|ca lu gG tE M<|cy h fun e1 q_e1 h=>K (bn m8 br M (D M) hI q_e1)<|bA br M<|aC br eG M fun b2=>aO br ae M<|cb ?_;refine iZ (h3:=fun y=>dy t e y=some R) (Of:=fun y=>[bx an 87 b oC,bx an 87 b2 y]) (Gf:=fun y=>[(2,bw an t),(4,tV (ax b 0)),(6,bw an e),(7,tV (ax b2 0))]) (fun y h=>?_) (fun af=>?_)
   ·skip
    refine bm<|bI 1 iy M<|bI 1 nk M<|K (bf cn M M (kW dP fX) (.tail _ (.head _)) (D M))<|jS M<|dq h M (fun h=>?_) (fun h=>?_)
    ·exact aV<|bA br M<|aO br ae M<|fK<|au<|aI 4 M<|aM<|so h▸bH M M ⟨bg br M M M,aP M,aQ⟩
    ·refine ko<|aV<|wk N5 rF M fun b3=>aT M<|bm<|oE iy dP M<|ca kM gX hU M<|c9 lJ M<|K (cj hI)<|cb<|av<|bE (k:=47) M fun hN=>ci<|eT<|eT ?_;refine aN (uE (h3:=fun ls i has os=>(e.root.Items.drop i=ls)/\fD t e y ls has=some R) (Of:=fun _ i has os=>[bx an 87 b oC,bx an 87 b2 y,pE N5 rF b3 none os has]) (Gf:=fun _ i has os=>[(2,bw an t),(4,tV (ax b 0)),(6,bw an e),(7,tV (ax b2 0)),(8,tV (oD b3)),(47,gP (ah) e.root.Items),(48,jq e.root.Items),(49,cA (i:Int))]) (fun i has os h=>?_) (fun e2 tl ih i has os h=>?_) e.root.Items 0 ([]:List (Int×Bool)) [] ⟨M,h⟩) (bv M)
     ·obtain⟨I,h⟩:=h
      refine eQ I M<|aB<|bm<|bI 1 iy M<|bI 8 qT M<|K (bf eM M M (kW dP lY) (.tail _ (.head _)) (D M))<|c9 fS M<|K (cj hI)<|cb<|av ?_;refine bE (k:=72) M fun hN1=>ci<|cX<|oz ?_;refine aN (jh (h3:=fun ls1 i1 x1=>(y.root.Keys.drop i1=ls1)/\gF t e has ls1 i1 x1=some R) (Of:=fun _ i1 x1=>[bx an 87 b x1,pE N5 rF b3 none os has]) (Gf:=fun _ i1 x1=>[(2,bw an t),(4,tV (ax b 0)),(6,bw an e),(8,tV (oD b3)),(73,jq y.root.Keys),(74,cA (i1:Int))]) (fun i1 x1 h=>?_) (fun e3 tl1 ih1 i1 x1 h=>?_) y.root.Keys 0 oC ⟨M,h⟩) (bv M)
      ·obtain⟨hx1,h⟩:=h
       exact eQ hx1 M<|aB<|aV<|bA br M<|aO br ae M<|fK<|aI 4 M<|aM<|so h▸bH M M ⟨bg br M M M,aP M,aQ⟩
      ·obtain⟨hx1,h⟩:=h
       refine eP hx1 M<|aJ<|av<|aY M<|aT M<|aY M<|bu M<|K (F8 (γ:=fun y:Bool=>H rB y) (z:=false) Tryz.underlying167 (kF qp) zv4 (fun S=>⟨_,M,(fun _=>M) S⟩) (.tail _ (.head _)) (D M) (v6 (D M)))<|K (jn (D M)) ?_;refine dq h M (fun h=>?_) (fun h=>?_)
       ·exact aV<|bA br M<|aO br ae M<|fK<|eX<|au<|eX<|aI 4 M<|aM<|so h▸bH M M ⟨bg br M M M,aP M,aQ⟩
       ·refine cg<|dQ hx1 hN1 M ?_;exact bj (aN (ih1 (i1+1) x1 ⟨dC hx1,h⟩) (bv M))
     ·obtain⟨I,h⟩:=h
      refine eP I M<|aJ<|av<|aV<|iq lJ aX M (fz I)<|aC aX cF M fun b4=>aO aX ae M<|aD 10 M<|cb<|aV<|oE dk cE M ?_;refine bA iY M<|cy h fun e4 q_e4 h=>K (bn gp eY M (D M) hI q_e4)<|bA eY M<|aC eY ip M fun b5=>aO eY ae M<|aD 11 M<|cb<|aV<|ca dk cE iY M<|c9 gp M<|dg M<|bu M<|aW M (gR lv ep M M)<|aW M (gQ cn M M)<|aW M (nm M)<|hM M<|dq h M (fun h=>?_) (fun h=>?_)
      ·refine aG<|bu M<|ca oW gY cn M<|dl<|Np (γ:=fun y:Bool=>gM y) Tryz.underlying167 (kF qp) (D M) (v6 (D M)) hB fun os1=>bq<|dQ I hN M<|aH<|aH ?_;exact bj (aN (ih (i+1) (ez has e4.Col true) os1 ⟨dC I,h⟩) (bv M))
      ·refine cg<|dQ I hN M ?_;exact bj (aN (ih (i+1) has os ⟨dC I,h⟩) (bv M))
   ·skip
    refine aV<|bI 1 iy M<|bI 1 nk M<|K (bf cn M M (kW dP fX) (.head _) (D M))<|dg M<|dq h M (fun h=>?_) (fun h=>?_)
    ·refine aG<|bI 13 lu M<|K (bf tE M M gG (.head _) (D M))<|cy h fun e5 q_e5 h=>K (bn m8 br M (D M) hI q_e5)<|bA br M<|aO br ae M<|bq<|bp ?_;exact cT (af e5 h) (bv M)
    ·refine cg<|bp ?_;exact cT (af e1 h) (bv M)

def QD{rec__:Option (List (Int×(am->Bool->Option (am×Int))))}(hr__: ∀{R:(List (Int×(am->Bool->Option (am×Int))))},rec__=some R->cI bk 65 [] (I5 (fun y:(am->Bool->Option (am×Int))=>DK bk xx HS (fun(x:am×Bool)=>y x.1 x.2)) rF R)){R}(h:tu rec__=some R):cI bk 65 [] (I5 (fun y:(am->Bool->Option (am×Int))=>DK bk xx HS (fun(x:am×Bool)=>y x.1 x.2)) rF R):=by
 exact eC Tryz.func65 M<|aV<|K (bz (show aE _ _ (.const (.map none)) (tV (.map none))from fun _ _ _=>M))<|cb<|aV<|wk (yI (fun y:(am->Bool->Option (am×Int))=>DK bk xx HS (fun(x:am×Bool)=>y x.1 x.2))) rF M fun b=>ow (γ:=(fun y:(am->Bool->Option (am×Int))=>DK bk xx HS (fun(x:am×Bool)=>y x.1 x.2))) (y:=(dF rec__)) Tryz.underlying118 (kF qp) (D M) (v6 hI) (FG (OJ Sh fun x y h=>QB hr__ _ _ h)) fun os=>ow (γ:=(fun y:(am->Bool->Option (am×Int))=>DK bk xx HS (fun(x:am×Bool)=>y x.1 x.2))) (y:=eE) Tryz.underlying118 (kF qp) (D M) (v6 hI) (FG (OJ Sf fun x y h=>OR _ _ h)) fun os1=>ow (γ:=(fun y:(am->Bool->Option (am×Int))=>DK bk xx HS (fun(x:am×Bool)=>y x.1 x.2))) (y:=eI) Tryz.underlying118 (kF qp) (D M) (v6 hI) (FG (OJ Sd fun x y h=>OQ _ _ h)) fun os2=>bu M<|bF M<|Fl 0 M<|so h▸bZ M M
def Mk: ∀(fu:Nat) {R:(List (Int×(am->Bool->Option (am×Int))))} (h:bG fu=some R),cI bk 65 [] (I5 (fun y:(am->Bool->Option (am×Int))=>DK bk xx HS (fun(x:am×Bool)=>y x.1 x.2)) rF R):=by
 intro fu
 induction fu with
 |zero=>intro R h;exact(nn h).elim
 |succ fu ih=>intro R h;exact QD ih h
def Kq{R}(h:o9=some R):cI bk 65 [] (I5 (fun y:(am->Bool->Option (am×Int))=>DK bk xx HS (fun(x:am×Bool)=>y x.1 x.2)) rF R):=Mk fQ h
def O7 x0 x1{R}(h:vi x0 x1=some R):cI bk 40 [H an x0,gM x1] (tT [H an R.1,cA R.2]):=NM Kq _ _ h
def O8 x0{R}(h:mh x0=some R):cI bk 38 [H an x0] (tT [H an R.1,gM R.2]):=NN Kq _ h
def Mn: ∀(fu:Nat) (bslf:Nat) (t:am) {R:am×Bool} (h:dW fu t=some R),cI bk 36 [H an t,y0 36 bslf] (tT [H an R.1,gM R.2]):=by
 intro fu
 induction fu with
 |zero=>intro bslf t R h;exact(nn h).elim
 |succ fu ihR=>
  intro bslf t R h
  refine eC Tryz.func36 M<|aV<|dn M<|aC br eG M fun b=>cR<|cb<|bm<|ca lu gG tE M<|c9 m8 M<|dg M<|dq h M (fun h=>?_) (fun h=>?_)
  ·exact aV<|bA br M<|aO br ae M<|cR<|dG<|au<|aI 3 M<|so h▸bH M M ⟨bg br M M M,aP M,aQ⟩
  ·refine ko<|aV<|bC false an 87<|K (bz sD)<|cb<|bm<|ca lu gG tE M<|c9 m8 M<|K (cj hI)<|cb<|av<|bE (k:=18) M fun hN=>ci ?_;refine aN (mX (h3:=fun ls i parts l c x=>(t.parts.drop i=ls)/\ge (dW fu) t ls parts x=some R) (Of:=fun _ i parts l c x=>[fi an 87 l c parts,bx an 87 b x]) (Gf:=fun _ i parts l c x=>[(1,y0 36 bslf),(2,bw an t),(3,tV (ax b 0)),(5,sO l c parts),(18,gP (an) t.parts),(19,jq t.parts),(20,cA (i:Int))]) (fun i parts l c x h=>?_) (fun e tl ih i parts l c x h=>?_) t.parts 0 Fu none 0 oC ⟨M,h⟩) (bv M)
   ·obtain⟨I,h⟩:=h
    refine eQ I M<|aB<|aV<|ca iy dP dR M<|bu M<|hD<|mW 5 M<|mW 41 M<|eg h KW (AH _ _) ⟨(D M),(mD (D M)),aQ⟩ fun r h=>bu M ?_;refine bS M M<|bS M M<|aC br eG M fun b1=>aO br ae M<|aD 10 M<|aT M<|bm<|bu M<|K (jn (D M))<|dq h M (fun h=>?_) (fun h=>?_)
    ·exact aV<|bA br M<|aS<|aO br ae M<|cR<|dG<|au<|aI 3 M<|aM<|so h▸bH M M ⟨bg br M M M,aP M,aQ⟩
    ·exact ko<|aV<|bA br M<|eg h QT (O8 _) (cm M) fun r1 h=>bS M M<|bS M M<|aS<|aO br ae M<|bF M<|aI 3 M<|aM<|so h▸bH M M ⟨bg br M M M,aP M,aQ⟩
   ·obtain⟨I,h⟩:=h
    refine eP I M<|aJ<|av<|aV<|iq m8 br M (fz I)<|aC br eG M fun b2=>aO br ae M<|aD 7 M<|cb<|aV<|K (Eg LD (D M)) ?_;refine bA br M<|cy h fun r2 q_r2 h=>K (Eh (ts:=[H an e]) (D M) (cp:= .tmp 1) (D M) QU (ihR _ _ q_r2) ⟨(D M),aQ⟩)<|bu M<|bS M M<|bS M M<|aC br eG M fun b3=>aO br ae M<|aD 8 M<|aT M<|bm<|bu M<|K (jn (D M))<|dq h M (fun h=>?_) (fun h=>?_)
    ·exact aV<|bA br M<|aS<|aO br ae M<|cR<|dG<|au<|eX<|au<|eX<|aI 3 M<|aM<|so h▸bH M M ⟨bg br M M M,aP M,aQ⟩
    ·refine ko<|aG<|bu M<|bA br M<|K (aR (r:=an) (ys:=[r2.1]) (xs:=[.tmp 34]) m8 br M M M M M ⟨(D M),aQ⟩)<|cy h fun parts1 q_parts1 h=>dm br M M M M m8 M M (D M) (D M) q_parts1 fun l1 c1=>jm M<|bq<|dQ I hN M ?_;exact bj (aN (ih (i+1) parts1 l1 c1 x ⟨dC I,h⟩) (bv M))
def O9(bslf:Nat) t{R}(h:nQ t=some R):cI bk 36 [H an t,y0 36 bslf] (tT [H an R.1,gM R.2]):=Mn fQ bslf t h

end Go.Proofs.YtbmmihfagmchaaaGreat

