import Derived.Test.YtdohlidddcgfjaaGreatFgT
import Derived.Test.YtdohlidddcgfjaaGreatFgP1
set_option linter.all false
namespace Go.Proofs.YtdohlidddcgfjaaGreat
open Go IntKind Tryz
set_option maxRecDepth 100000
def Ww n{R}(h:ox n=some R):jI bt 232 [Q (.slice none 0 0),bI n] false cj 3 R:=by
 refine jI.of func232 J J J fun w0 S0=>O<|cn false cj 3<|X (cg vk)<|bC ?_;refine UF (aH:=pp n=some R) (Of:=[]) (Gf:=[(0,Q (.slice none 0 0)),(1,bI n)]) (fun h=>?_) (fun hx=>?_)
 ·skip;refine y4 (aH:=fun bx l c=>po bx=some R) (Of:=fun bx l c=>[d5 cj 3 l c bx]) (Gf:=fun bx l c=>[(0,oI l c bx)]) (fun bx l c h=>?_) (fun K1=>?_)
  ·skip;exact aw J<|ba J<|so h▸gu J J
  ·skip;refine aw J<|Z J<|X (Kb eh (D J))<|Z J<|X (Ka eh (D J))<|X (ec (D J) (D J))<|X (ec (D J) (D J))<|aK J<|aw J<|X (d8 (D J) hI)<|bV h J (fun h=>?_) (fun h=>?_)
   ·refine ai<|Z J<|Z J<|X (Kb eh (D J))<|X (NR eh bH (D J) (D J))<|Z J<|bR h fun u q_u h=>bR h fun mk q_mk h=>bc (OA (r:=cj) (x:=0) bH J J J J eh jm (fun _=>J) (D J) (D J) (We q_u) q_mk) J fun i=>Z J<|X (Ka eh (D J))<|bR h fun y M_ h=>X (rp eh bH J (.head _) (D J) (D J) M_)<|IA M_<|dM J<|aJ ?_;exact bE (K1 y (i.h 0).1 (i.h 0).2 h) (aX J)
   ·refine aW<|XA false cj 3 ?_;exact bE (K1 y6 none 0 h) (aX J)
 ·skip;refine aw J<|X (eC (D J) hI)<|bV h J (fun h=>?_) (fun h=>?_)
  ·refine ai ?_;exact(nn h).elim
  ·refine aW<|aF ?_;exact bE (hx h) (aX J)
def Wz slices{R}(h:kH slices=some R):jI bt 204 [ek (oH) slices] false cj 3 R:=by
 refine jI.of func204 J J J fun w0 S0=>O<|cn false cj 3<|X (cg vk)<|bC<|O<|bP<|bC<|aN<|Z J<|bX wF J<|X (cB hI)<|bC<|ak<|bJ (k:=9) J fun hN=>bK<|oG ?_;refine aM (uE (aH:=fun ls i size=>(slices.drop i=ls)/\kZ slices ls size=some R) (Of:=fun _ i size=>[]) (Gf:=fun _ i size=>[(0,ek (oH) slices),(3,bI size),(9,ek (oH) slices),(10,mR slices),(11,bI (i:Int))]) (fun i size h=>?_) (fun e tl ih i size h=>?_) slices 0 0 ⟨J,h⟩) (aX J)
 ·obtain⟨K,h⟩:=h;refine gk K J<|an<|aw J<|lp h aen (Ww _) ⟨hV,(D J),aV⟩ fun r h l c=>aK J<|aN ?_;refine Z J<|bX wF J<|X (cB hI)<|bC<|ak<|bJ (k:=25) J fun hN1=>bK ?_;refine aM (nX (aH:=fun ls1 i1 t_ l1 c1=>(slices.drop i1=ls1)/\kY ls1 t_=some R) (Of:=fun _ i1 t_ l1 c1=>[d5 cj 3 l1 c1 t_]) (Gf:=fun _ i1 t_ l1 c1=>[(6,oI l1 c1 t_),(25,ek (oH) slices),(26,mR slices),(27,bI (i1:Int))]) (fun i1 t_ l1 c1 h=>?_) (fun e1 tl1 ih1 i1 t_ l1 c1 h=>?_) slices 0 r l c ⟨J,h⟩) (aX J)
  ·obtain⟨l_,h⟩:=h;exact gk l_ J<|an<|aw J<|ba J<|so h▸gu J J
  ·obtain⟨l_,h⟩:=h;refine gj l_ J<|aS<|ak<|O<|eE wF cV J (fh l_)<|aK J<|ai<|Z J<|Z J<|bR h fun newslice1 q_newslice1 h=>bA bH J J J J eh J J (D J) (D J) q_newslice1 fun l2 c2=>?_;refine dM J<|aJ<|eN l_ hN1 J ?_;exact aY (aM (ih1 (i1+1) newslice1 l2 c2 ⟨ei l_,h⟩) (aX J))
 ·obtain⟨K,h⟩:=h;refine gj K J<|aS<|ak<|O<|eE wF cV J (fh K)<|aK J<|aw J<|Z J<|bX eh J ?_;refine X (cU (D J) (D J))<|aK J<|aw J<|X (eC (D J) hI)<|bV h J (fun h=>?_) (fun h=>?_)
  ·refine ai ?_;exact(nn h).elim
  ·refine aW<|eN K hN J ?_;exact aY (aM (ih (i+1) (i64.wrap (size+(e.length:Int))) ⟨ei K,h⟩) (aX J))
def Zl slices{R}(h:kH slices=some R):dk bt 204 [ek (oH) slices] (lk R):=(Wz _ h).spec
def Sd tag{R}(h:u3 tag=some R):dk bt 254 [bI tag] (bI R):=by
 refine dX func254 J<|O<|bP<|bC<|aS<|ak<|aw J<|bl J<|Z J<|aB J (ca J)<|aB J (iq J)<|dG J<|aK J<|fz h J (fun h=>?_) (fun h=>?_)
 ·exact O<|ea<|cF<|so h▸aC J J
 ·refine aw J<|X (d9 (D J) hI)<|Z J<|ac J (ca J)<|ac J (fun Y=>ft (bg J Y) hI)<|cm J<|aK J<|fz h J (fun h=>?_) (fun h=>?_)
  ·exact O<|ea<|cF<|so h▸aC J J
  ·refine aw J<|X (d9 (D J) hI)<|Z J<|ac J (ca J)<|ac J (fun Y=>ft (bg J Y) hI)<|cm J<|aK J<|fz h J (fun h=>?_) (fun h=>?_)
   ·exact O<|ea<|cF<|so h▸aC J J
   ·exact aW<|ah<|an<|O<|ea<|so h▸aC J J
def Y8 v{R}(h:AE v=some R):dk bt 239 [tD bh v] (tD bh R):=by
 refine dX func239 J<|O<|ss (D J) J fun b=>bD cb ge J fun b1=>bC<|aN<|aR 0 oC J<|X (aA bH J J kS (.tail _ (.head _)) (D J))<|bC ?_;refine KI (aH:=fun v1=>mW v1=some R) (Of:=fun v1=>[s bh 104 b v1,s bh 104 b1 AA]) (Gf:=fun v1=>[(1,Q (M b 0)),(2,Q (M b1 0))]) (fun v1 h=>?_) (fun hx=>?_)
 ·skip;exact an<|O<|X (aA cb J J bm (.head _) (D J))<|bf<|be cb aq J<|bj 2 J<|bF<|aF<|so h▸IR J cb J J J
 ·skip;refine aS<|ak<|aS<|ak<|aS ?_;refine KI (aH:=fun v2=>ug v2=some R) (Of:=fun v2=>[s bh 104 b v2,s bh 104 b1 AA]) (Gf:=fun v2=>[(1,Q (M b 0)),(2,Q (M b1 0))]) (fun v2 h=>?_) (fun K1=>?_)
  ·skip;refine an<|O<|aR 0 oC J<|eD bH J wS J (D J) hI<|bC<|cL<|cN J<|am<|cN J<|am<|bL ?_;exact bE (hx (aD.mk 0 v2.N v2.U v2.S) h) (aX J)
  ·skip;refine aS ?_;refine UJ (aH:=uf v=some R) (Of:=[s bh 104 b v,s bh 104 b1 AA]) (Gf:=[(1,Q (M b 0)),(2,Q (M b1 0))]) (fun h=>?_) (fun K2=>?_)
   ·skip;refine an<|ai<|aR 1 oB J<|eD M2 J q5 J (D J) hI<|aJ<|ah ?_;exact bE (K1 (aD.mk v.Kind 0 v.U v.S) h) (aX J)
   ·skip;refine aS<|ak<|aS<|aN<|bl J<|aK J<|fz h J (fun h=>?_) (fun h=>?_)
    ·refine cL<|am<|am<|bL<|an<|O<|aR 1 oB J<|X (aA M2 J J pC (.tail _ (.head _)) (D J))<|mV J<|Z J<|ac J (fun Y=>pL 1 oB J J J)<|ac J (fun Y=>aA M2 J J pC (.tail _ (.head _)) (bg J Y))<|ac J (ud J)<|cm J<|bV h J (fun h=>?_) (fun h=>?_)
     ·refine cL<|cN J<|am<|cN J<|am<|cN J<|am<|cN J<|am<|bL<|ap ?_;exact bE (hx v h) (aX J)
     ·refine aW<|ah<|ap ?_;exact bE (K2 h) (aX J)
    ·refine fy<|aN<|bl J<|aK J<|fz h J (fun h=>?_) (fun h=>?_)
     ·refine cL<|am<|am<|cN J<|am<|bL<|ap ?_;exact bE (K2 h) (aX J)
     ·refine fy<|aN<|bl J<|aK J<|fz h J (fun h=>?_) (fun h=>?_)
      ·refine cL<|am<|am<|cN J<|am<|cN J<|am<|bL<|ap ?_;exact bE (K1 v h) (aX J)
      ·refine fy<|aN<|bl J<|aK J<|fz h J (fun h=>?_) (fun h=>?_)
       ·refine cL<|am<|am<|cN J<|am<|cN J<|am<|cN J<|am<|bL<|an ?_;refine dP (aH:=fun v3=>ue v3=some R) (Of:=fun v3=>[s bh 104 b v3,s bh 104 b1 AA]) (Gf:=fun v3=>[(1,Q (M b 0)),(2,Q (M b1 0))]) (fun v3 h=>?_) (fun K3=>?_)
        ·skip;refine cL<|cN J<|am<|bL ?_;exact bE (hx v3 h) (aX J)
        ·skip;refine O<|aR 3 vl J<|X (aA Vk J J ru (.tail _ (.head _)) (D J))<|X (LC Dy (D J))<|X (ft (D J) hI)<|bV h J (fun h=>?_) (fun h=>?_)
         ·refine ai<|aR 0 oC J<|bf<|eD bH J wS J (D J) hI<|aR 3 vl J<|eD Vk J CU J (D J) hS<|aJ ?_;exact bE (K3 (aD.mk 0 v.N v.U ([])) h) (aX J)
         ·refine aW<|ap ?_;exact bE (K3 v h) (aX J)
       ·refine fy<|O<|bl J<|aK J<|fz h J (fun h=>?_) (fun h=>?_)
        ·refine cL<|am<|cN J<|am<|cN J<|am<|cN J<|am<|cN J<|am<|bL<|an<|O<|aR 0 oC J<|bf<|eD bH J wS J (D J) hI<|aR 1 oB J<|eD M2 J q5 J (D J) hI<|aR 2 zS J<|eD kG J CV J (D J) hI<|bC<|cL ?_;refine bL ?_;exact bE (hx (aD.mk 0 0 0 v.S) h) (aX J)
        ·refine fy<|cL<|cN J<|am<|cN J<|am<|cN J<|am<|cN J<|am<|cN J<|am<|bL<|ap ?_;exact bE (hx v h) (aX J)
def xZ v{R}(h:kj v=some R):dk bt 210 [tD bh v] (bI R):=by
 refine dX func210 J<|O<|eH J<|bP<|bC<|aN<|eb cb J<|ej h aeh (Y8 _) (co J) fun r h=>X (cI cb vF ge J)<|X (wn FP (D J) (D J))<|bV h J (fun h=>?_) (fun h=>?_)
 ·exact O<|ea<|ae<|so h▸aC J J
 ·exact fy<|O<|ea<|so h▸aC J J
def YN v{R}(h:xu v=some R):dk bt 265 [tD bh v] (fU R):=by
 exact dX func265 J<|O<|eH J<|bo<|bC<|O<|eb cb J<|ej h FV (xZ _) (co J) fun r h=>bl J<|Z J<|ac J (bu oC kS J J)<|ac J (bp bH J J)<|ac J (ud J)<|cm J<|ba J<|so h▸aC J J
def YQ n{R}(h:yb n=some R):dk bt 260 [tD bG n] (fU R):=by
 refine dX func260 J<|O<|eH J<|bo<|bC<|aN<|aU jj eY bH J<|bC<|ak<|O<|bl J<|aK J<|fz h J (fun h=>?_) (fun h=>?_)
 ·exact O<|aU uA oo cb J<|ej h adZ (YN _) (co J) fun r h=>Z J<|ac J (bu pF j8 J J)<|ac J (bp bH J J)<|ac J (iq J)<|cm J<|ba J<|cF<|so h▸aC J J
 ·refine O<|bl J<|aK J<|fz h J (fun h=>?_) (fun h=>?_)
  ·exact O<|aU uA oo cb J<|X (cI cb vF ge J)<|X (BR FP (D J) (D J))<|Z J<|ac J (bu pF j8 J J)<|ac J (bp bH J J)<|ac J (fun Y=>d9 (bg J Y) hI)<|cm J<|Z J<|ac J (bu pF j8 J J)<|ac J (bp bH J J)<|ac J (fun Y=>eC (bg J Y) hI)<|cm J<|ba J<|cF<|so h▸aC J J
  ·exact aW<|ah<|an<|O<|aU uA oo cb J<|X (cI cb vF ge J)<|X (BR FP (D J) (D J))<|Z J<|ac J (bu pF j8 J J)<|ac J (bp bH J J)<|ac J (iq J)<|cm J<|ba J<|so h▸aC J J
def YU e{R}(h:Bk e=some R):dk bt 250 [tD bT e] (tT [lk R.1,fU R.2]):=by
 refine dX func250 J<|O<|eH J<|fb cj<|bo<|bC<|O<|cn false cj 3<|X (cg vk)<|cn false cj 3<|X (cg vk)<|bC<|aN<|aU ia fD pO J<|bX mo J<|X (cB hI)<|aJ ?_;refine an<|ak<|bJ (k:=15) J fun hN=>bK<|fT ?_;refine aM (IF (aH:=fun ls i all l c open1 l1 c1=>(e.i'.drop i=ls)/\ni ls i all open1=some R) (Of:=fun _ i all l c open1 l1 c1=>[d5 cj 3 l c all,d5 cj 3 l1 c1 open1]) (Gf:=fun _ i all l c open1 l1 c1=>[(4,oI l c all),(5,oI l1 c1 open1),(15,ek (bG) e.i'),(16,mR e.i'),(17,bI (i:Int))]) (fun i all l c open1 l1 c1 h=>?_) (fun e1 tl ih i all l c open1 l1 c1 h=>?_) e.i' 0 y6 none 0 y6 none 0 ⟨J,h⟩) (aX J)
 ·obtain⟨K,h⟩:=h;refine gk K J<|an<|aw J<|Z J<|X (jg eh (.tail _ (.head _)) (D J))<|bl J<|Z J<|ac J (ca J)<|ac J (fun Y=>jg eh (.head _) (bg J Y))<|ac J (fun Y=>ft (bg J Y) hI)<|cm J ?_;exact dM J<|ba J<|dE<|bS 4 J<|bS 84 J<|bS 2 J<|fa 2 J<|aF<|aF<|so h▸cM J J J
 ·obtain⟨K,h⟩:=h;refine gj K J<|aS<|ak<|aw J<|eE mo fF J (fh K)<|bD fF md J fun b=>dM J<|be fF aq J<|bj 7 J<|bC<|aS ?_;refine ai<|aU jj eY bH J<|ej h aaz (Sd _) (co J) fun r h=>aK J<|aN<|Z J<|X (eC (D J) hI)<|Z J<|aB J (ca J)<|aB J (ca J)<|aB J (fun Y=>jg eh (.tail _ (.head _)) (bg J Y))<|aB J (fun Y=>d8 (bg J Y) (bg J Y))<|dG J<|Z J<|bR h fun t u_ h=>aB J (fun Y=>CM fF J J) ?_;obtain⟨r1,h_,v_⟩:=og u_;have k_:=fun V=>(h_ V).1;refine aB J (fun Y=>cC ad2 (YQ _ (k_ Y)) ⟨(bg J Y),aV⟩)<|aB J (nt J)<|X (iQ (D J) (fun V=>(bg J (sL V))) (fun V=>(h_ V).2) v_)<|bV h J (fun h=>?_) (fun h=>?_)
  ·exact O<|fb cj<|bo<|bF<|ae<|cF<|ae<|cF<|aF<|aF<|so h▸cM J J J
  ·refine fy<|aw J<|Z J<|X (jg eh (.tail _ (.head _)) (D J))<|Z J<|X (ec (D J) (D J))<|bR h fun y M_ h=>X (tL eh bH J (.tail _ (.head _)) (D J) (D J) M_)<|uD (.tail _ (.head _)) M_ fun hv=>aK J<|O<|X (uX (r:=cj) (ys:=[DA,DA]) (xs:=[.const (.int .i64 (-1)),.const (.int .i64 (-1))]) GQ bH J Cp J J ⟨hI,hI,aV⟩)<|bD (r:=(pP cj 2)) (x:=(List.replicate 2 (0:Int))) Cp (fun _=>Br (r:=cj) 2 (fun _=>J) _) J fun b1=>be Cp aq J<|bC<|O ?_;refine Z J<|aK J<|aN<|Z J<|X (RP eh (.tail _ (.tail _ (.head _))) M_ (D J))<|X (cB hI)<|bC<|ak ?_;have hN1:=hv.2;refine bK<|jk<|jk ?_;refine aM (IG (aH:=fun ls1 i1 first M'=>(y.drop i1=ls1)/\oZ (ni tl) i e1 all open1 r ls1 i1 first M'=some R) (Of:=fun _ i1 first M'=>[d5 cj 3 l c all,d5 cj 3 l1 c1 open1,s (pP cj 2) 209 b1 M']) (Gf:=fun _ i1 first M'=>[(4,oI l c all),(5,oI l1 c1 open1),(6,bI (i:Int)),(7,da bG e1),(8,bI r),(10,Q (M b1 0)),(11,bI first),(15,ek (bG) e.i'),(16,mR e.i'),(17,bI (i:Int)),(46,Q (qw 1 l1 c1 (i64.wrap ((open1.length:Int)-r)).toNat y.length)),(47,mR y),(48,bI (i1:Int))]) (fun i1 first M' h=>?_) (fun e2 tl1 ih1 i1 first M' h=>?_) y 0 (i:Int) ([DA,DA]) ⟨J,h⟩) (aX J)
   ·obtain⟨l_,h⟩:=h;refine gk l_ J<|an<|aN<|X (aA Cp J J bm (.tail _ (.tail _ (.head _))) (D J))<|aU qP rC bH J<|aU pG pD bH J<|X (uX (r:=cj) (ys:=[e1.L,e1.R]) (xs:=[.tmp 65,.tmp 67]) GQ bH J Cp J J ⟨(D J),(D J),aV⟩)<|X (wn aav (D J) (D J))<|aJ ?_;refine an<|fz h J (fun h=>?_) (fun h=>?_)
    ·exact O<|fb cj<|bo<|bF<|ae<|cF<|ae<|cF<|aF<|aF<|aF<|so h▸cM J J J
    ·refine fy<|aw J<|Z J<|X (aT (r:=cj) (ys:=[first]) (xs:=[.tmp 71]) eh bH J J J J J ⟨(D J),aV⟩)<|bR h fun all1 q_all1 h=>bA bH J J J J eh J J (D J) (D J) q_all1 fun l2 c2=>aK J<|ai<|Z J<|Z J<|X (jg eh (.tail _ (.head _)) (D J))<|Z J<|X (ec (D J) (D J))<|bR h fun y1 S_ h=>X (rp eh bH J (.tail _ (.head _)) (D J) (D J) S_)<|Z J<|X (aT (r:=cj) (ys:=[(i:Int)]) (xs:=[.tmp 80]) eh bH J J J J J ⟨(D J),aV⟩)<|bf<|IA S_ ?_;refine bR h fun open2 q_open2 h=>bA bH J J J J eh J J (D J) (D J) q_open2 fun l3 c3=>dM J<|aJ<|eN K hN J<|aP<|aF<|ap ?_;exact aY (aM (ih (i+1) all1 l2 c2 open2 l3 c3 ⟨ei K,h⟩) (aX J))
   ·obtain⟨l_,h⟩:=h;refine gj l_ J<|aS<|ak<|aw J<|X (Cw eh bH J (.tail _ (.head _)) M_ (D J) (D J) (fh l_))<|X (kJ (r:=cj) (i:=((i64.wrap ((open1.length:Int)-r))+(i1:Int))) (foff:=0) bH J J bm J (.tail _ (.head _)) (CT M_ (fh l_)).1 (D J))<|dM J<|aK J<|bR h fun e3 H_ h=>bR h fun e4 O_ h=>bR h fun ar q_ar h=>?_;refine jK 10 [tc (bI (i1:Int)),tc (bI e2),tc (bI first),tc (oI l c all),tc (bI e2),tc (Q (Dd l (e2.toNat*1+0))),tc (bI e3),tc (bI (min first e3)),tc (Q (M b1 ((i1:Int).toNat*1))),tc (ER)] [false,false,false,false,false,false,false,false,false,true] [fun _=>[d5 cj 3 l c all,d5 cj 3 l1 c1 open1,s (pP cj 2) 209 b1 M'],fun sg=>[s (pP cj 2) 209 b1 ar,d5 cj 3 l c all,d5 cj 3 l1 c1 open1]] J mixed J J J J J
     ⟨⟨[⟨12,fun _=>tD cj (i1:Int),none⟩],_,0,0,J,⟨(fun _=>J),aV⟩,J,J,J,J,J,fun _ sg _ _=>af J (ki J)⟩,
     ⟨⟨[⟨13,fun _=>tD cj e2,none⟩],_,0,0,J,⟨(fun _=>J),aV⟩,J,J,J,J,J,fun _ sg _ _=>af J (ki J)⟩,
     ⟨⟨[⟨11,fun _=>tD cj first,none⟩],_,0,1,J,⟨(fun _=>J),aV⟩,J,J,J,J,J,fun _ sg _ _=>af J (ki J)⟩,
     ⟨⟨[⟨4,fun _=>Q (aI l c all.length),none⟩],_,0,1,J,⟨(fun _=>J),aV⟩,J,J,J,J,J,fun _ sg _ _=>af J (ki J)⟩,
     ⟨⟨[⟨13,fun _=>tD cj e2,none⟩],_,0,1,J,⟨(fun _=>J),aV⟩,J,J,J,J,J,fun _ sg _ _=>af J (ki J)⟩,
     ⟨⟨[⟨56,fun _=>Q (aI l c all.length),some 3⟩,⟨57,fun _=>tD cj e2,some 4⟩],_,0,1,J,⟨(fun _=>J),(fun _=>J),aV⟩,J,J,J,J,J,AD (fun sg=>af J (fP eh bH (.head _) (D J) (D J) H_)) (qv (fun sg=>af J (fP eh bH (.tail _ (.head _)) (D J) (D J) H_)))⟩,
     ⟨⟨[⟨58,fun _=>Q (Dd l (e2.toNat*1+0)),some 5⟩],_,0,1,J,⟨(fun _=>J),aV⟩,J,J,J,J,J,AD (fun sg=>af J (kJ (r:=cj) (i:=e2) (foff:=0) bH J J bm J (.head _) H_ (D J))) (qv (fun sg=>af J (kJ (r:=cj) (i:=e2) (foff:=0) bH J J bm J (.tail _ (.head _)) H_ (D J))))⟩,
     ⟨⟨[⟨55,fun _=>tD cj first,some 2⟩,⟨59,fun _=>tD cj e3,some 6⟩],_,0,1,J,⟨(fun _=>J),(fun _=>J),aV⟩,J,J,J,J,J,fun _ sg _ _=>af J (Yg (D J) (D J))⟩,
     ⟨⟨[⟨10,fun _=>Q (M b1 0),none⟩,⟨53,fun _=>tD cj (i1:Int),some 0⟩],_,0,0,J,⟨(fun _=>J),(fun _=>J),aV⟩,J,J,J,J,J,qv (fun sg=>af J (ld GQ bH (.tail _ (.tail _ (.head _))) (D J) (D J) O_))⟩,
     ⟨⟨[⟨61,fun _=>Q (M b1 ((i1:Int).toNat*1)),some 8⟩,⟨54,fun _=>tD cj e2,some 1⟩],_,J,⟨(fun _=>J),(fun _=>J),aV⟩,J,J,J,fun sg=>cG J (EffOK.fr2 (QU bH J O_ (so q_ar) (D J) (D J)))⟩,
     aV⟩⟩⟩⟩⟩⟩⟩⟩⟩⟩ (fun sg=>?_)
    refine(show RG _ _ _ _ [_,_,_] _ from ?_);refine dM J<|aJ<|eN l_ hN1 J<|aP<|aP ?_;exact aY (aM (ih1 (i1+1) (min first e3) ar ⟨ei l_,h⟩) (aX J))
def Se e{R}(h:xe e=some R):dk bt 233 [tD bT e] (bI R):=by
 refine dX func233 J<|O<|eH J<|bP<|bC<|aN<|eb hY J<|ej h ad9 (YU _) (co J) fun r h=>Z J<|dJ J J<|dJ J J<|dM J<|aK J<|aw J<|X (fq (D J)) ?_;refine bV h J (fun h=>?_) (fun h=>?_)
 ·exact O<|ea<|ae<|so h▸aC J J
 ·exact fy<|O<|ea<|so h▸aC J J
def ace(l:Option Nat)(c:Nat) bx{R}(h:mq bx=some R):bU bt 252 [oI l c bx] [d5 cj 3 l c bx] (fun i:OI=>oI (i.h 0).1 (i.h 0).2 R) (fun i=>[d5 cj 3 (i.h 0).1 (i.h 0).2 R]):=by
 refine bU.of func252 J J J fun w0 S0=>O<|cn false cj 3<|X (cg vk)<|bC<|aN<|Z J<|X (jg eh (.tail _ (.head _)) (D J))<|X (eC (D J) hI)<|bV h J (fun h=>?_) (fun h=>?_)
 ·exact aw J<|ba J<|ae<|aF<|so h▸ci J (oi l c) J J (fun _ _ h=>h)
 ·refine fy<|aN<|bP<|bC<|ak<|EJ (.tail _ (.head _)) fun hN=>bK<|oG ?_;refine aM (f0 (aH:=fun ls i=>(bx.drop i=ls)/\gU bx ls i=some R) (Of:=fun _ i=>[d5 cj 3 l c bx]) (Gf:=fun _ i=>[(0,oI l c bx),(3,bI (i:Int))]) (fun i h=>?_) (fun e tl ih i h=>?_) (bx.drop (1)) 1 ⟨J,h⟩) (aX J)
  ·obtain⟨K,h⟩:=h;exact cy<|aN<|Z J<|Z J<|X (jg eh (.head _) (D J))<|im J<|bC<|xn (D J) (WT K)<|cL<|am<|am<|bL<|an<|aw J<|ba J<|so h▸ci J (oi l c) J J (fun _ _ h=>h)
  ·obtain⟨K,h⟩:=h;refine cy<|aN<|Z J<|Z J<|X (jg eh (.head _) (D J))<|im J<|bC<|xm (D J) (So K)<|fy<|aS<|ak<|aS<|bR h fun e1 Z' h=>?_;refine ga (ts:=[_,_,_,_,_,_,_,_,_,_]) mixed J J
    ⟨fc J J,
    ⟨fc J J,
    ⟨fR 16 0 17 1 J J J (fP eh bH (.head _) (D J) (D J) (fh K)),
    ⟨eS 18 2 J J (kJ (r:=cj) (i:=(i:Int)) (foff:=0) bH J J bm J (.head _) (fh K) (D J)),
    ⟨fc J J,
    ⟨fc J J,
    ⟨eS 21 5 J J (ec (D J) hI),
    ⟨fR 20 4 22 6 J J J (fP eh bH (.head _) (D J) (D J) Z'),
    ⟨eS 23 7 J J (kJ (r:=cj) (i:=(i64.wrap ((i:Int)-1))) (foff:=0) bH J J bm J (.head _) Z' (D J)),
    ⟨fR 19 3 24 8 J J J (dW (D J) (D J)),
    aV⟩⟩⟩⟩⟩⟩⟩⟩⟩⟩ ?_
   refine an<|fz h J (fun h=>?_) (fun h=>?_)
   ·refine aw J<|Z J<|bR h fun y M_ h=>X (tL eh bH J (.head _) (D J) (D J) M_)<|uD (.head _) M_ fun hv=>aK J<|aN<|bP<|bC<|ak<|bK ?_;refine aM (Mt (aH:=fun k1 i1 s1 k=>(y.length-i1=k1)/\gh i y k1 i1 s1 k=some R) (Of:=fun _ i1 s1 k=>[d5 cj 3 l c s1]) (Gf:=fun _ i1 s1 k=>[(0,oI l c s1),(3,bI k),(4,Q (qw 1 l c (i:Int).toNat y.length)),(5,bI (i1:Int))]) (fun i1 s1 k h=>?_) (fun k2 ih1 i1 s1 k h=>?_) (y.length-1) 1 bx (i:Int) ⟨J,h⟩) (aX J)
    ·obtain⟨l_,h⟩:=h;refine cy<|aN<|Z J<|Z J<|X (RO eh hv.1 (D J))<|im J<|bC<|xn (D J) (Yn l_)<|cL<|am<|am<|bL<|an<|aw J<|Z J<|bR h fun y1 S_ h=>X (tL eh bH J (.head _) (D J) (D J) S_)<|uD (.head _) S_ fun hv1=>bR h fun cl q_cl h=>?_;exact Uz bH J J eh (fun _=>J) J S_ (D J) (so q_cl)<|tU (Kv S_ (so q_cl)) 0 J<|tU (Kv S_ (so q_cl)) 54 J<|bC<|aw J<|Z J<|bR h fun y2 q_y2 h=>X (rp eh bH J (.head _) (D J) (D J) q_y2)<|IA q_y2<|ba J<|cF<|ae<|cF<|so h▸ci J (oi l c) J J (fun _ _ h=>h)
    ·obtain⟨l_,h⟩:=h;refine cy<|aN<|Z J<|Z J<|X (RO eh hv.1 (D J))<|im J<|bC<|xm (D J) (Ym l_)<|fy<|aS<|ak<|aS<|bR h fun e3 H_ h=>bR h fun e4 O_ h=>?_;refine ga (ts:=[_,_,_,_,_,_,_,_,_,_]) mixed J J
      ⟨fc J J,
      ⟨fc J J,
      ⟨fR 35 0 36 1 J J J (yr eh bH J (.head _) (EW M_) (D J) (D J) H_),
      ⟨eS 37 2 J J (kJ (r:=cj) (i:=((i:Int)+(i1:Int))) (foff:=0) bH J J bm J (.head _) (BX H_).2.2 (D J)),
      ⟨fc J J,
      ⟨fc J J,
      ⟨eS 40 5 J J (ec (D J) hI),
      ⟨fR 39 4 41 6 J J J (yr eh bH J (.head _) (EW M_) (D J) (D J) O_),
      ⟨eS 42 7 J J (kJ (r:=cj) (i:=((i:Int)+(i64.wrap ((i1:Int)-1)))) (foff:=0) bH J J bm J (.head _) (BX O_).2.2 (D J)),
      ⟨fR 38 3 43 8 J J J (dc (D J) (D J)),
      aV⟩⟩⟩⟩⟩⟩⟩⟩⟩⟩ ?_
     refine an<|fz h J (fun h=>?_) (fun h=>?_)
     ·refine aw J<|Z J<|Z J<|Z J<|bR h fun e5 q_e5 h=>X (yr eh bH J (.head _) (EW M_) (D J) (D J) q_e5)<|X (kJ (r:=cj) (i:=((i:Int)+(i1:Int))) (foff:=0) bH J J bm J (.head _) (BX q_e5).2.2 (D J))<|bR h fun e6 q_e6 h=>X (fP eh bH (.head _) (D J) (D J) q_e6)<|bR h fun st W_ h=>B2 bH J aq J q_e6 (so W_) (D J) (D J)<|tU (va (so W_)) 0 J<|tU (va (so W_)) 45 J<|bC<|ai<|Z J<|X (cU (D J) hI)<|dM J<|aJ<|ah<|an ?_;refine ai<|Z J<|X (BQ (VV l_ (adn hv.2)) (D J) hI)<|dM J<|aJ ?_;exact aY (aM (ih1 (i1+1) st (i64.wrap (k+1)) ⟨VU l_,h⟩) (aX J))
     ·refine aW<|ah<|an<|ai<|Z J<|X (BQ (VV l_ (adn hv.2)) (D J) hI)<|dM J<|aJ ?_;exact aY (aM (ih1 (i1+1) s1 k ⟨VU l_,h⟩) (aX J))
   ·refine aW<|GX K hN J ?_;exact aY (aM (ih (i+1) ⟨ei K,h⟩) (aX J))
