/- cP of this claim: P7. -/
import Derived.Test.YtbmmihfagmchaaaGreatRbT
import Derived.Test.YtbmmihfagmchaaaGreatRbP6
set_option linter.all false
namespace Go.Proofs.YtbmmihfagmchaaaGreat
open Go
set_option maxRecDepth 100000

def Gs l{R}(h:iv l=some R):cI bk 16 [H ay l] (tT [lI R.1,cA R.2]):=by
 refine eC Tryz.func16 M<|aV<|dn M<|oF cB<|da<|cb<|aV<|bA cJ M<|eg h Pp (Gq _) (cm M) fun r h=>bu M<|bS M M<|bS M M<|bS M M<|jm M<|jm M<|aT M<|aJ<|aJ ?_;refine aG<|bu M<|K (jn (D M))<|dq h M (fun h=>?_) (fun h=>?_)
 ·exact aV<|oF cB<|fK<|au<|so h▸eW M M M
 ·exact ko<|aY M<|K (CP (D M))<|ca lG CZ qw M<|bu M<|cy h fun e q_e h=>iq sR eM M q_e<|q5 h KV (C5 _) (cm M) fun r1 h l1 c=>jm M<|fK<|o6<|fC 2 M<|fC 22 M<|o7 2 M<|aM<|so h▸eW M M M

def Ph{rec__:Option (List (Int×(am->Bool->Option (am×Int))))}(hr__: ∀{R:(List (Int×(am->Bool->Option (am×Int))))},rec__=some R->cI bk 65 [] (I5 (fun y:(am->Bool->Option (am×Int))=>DK bk xx HS (fun(x:am×Bool)=>y x.1 x.2)) rF R)) t deep{R}(h:gc rec__ t deep=some R):cI bk 122 [H an t,gM deep] (tT [H an R.1,cA R.2]):=by
 refine eC Tryz.func122 M<|aV<|dn M<|aC br eG M fun b=>da<|cb<|aV<|ca lu gG tE M<|cy h fun e q_e h=>K (bn m8 br M (D M) hI q_e)<|bA br M<|aC br eG M fun b1=>aO br ae M<|aD 6 M<|cb<|aV<|ca lu gG tE M ?_;refine cy h fun e1 q_e1 h=>K (bn m8 br M (D M) hI q_e1)<|ca xV ql cJ M<|eg h Ps (Gs _) (cm M) fun r h=>bu M<|bS M M<|bS M M<|jm M<|aT M<|aV<|oE iy dP M<|ca kN fW aX M<|bu M<|c9 fS M<|oE iy dP M<|ca C0 wd Jn M<|cy h fun r1 q_r1 h=>?_;refine K (ce SG (Pb _ _ _ q_r1) ⟨(D M),(D M),(D M),aQ⟩)<|aC (r:=Jb) (x:=(List.replicate 3 [])) H0 (fun _=>AU (r:=vA) 3 (fun _=>⟨none,0,M,iQ _,mC _,.inl M⟩) _) M fun b2=>aO H0 ae M<|aD 9 M<|cb<|bm<|cy h fun e2 q_e2 h=>K (pi Be hU M (D M) hI q_e2)<|bA hU M<|c9 lJ M<|cy h fun e3 q_e3 h=>K (pi Be hU M (D M) hI q_e3)<|bA hU M<|c9 lJ M<|K (lr (D M) (D M))<|dg M<|dq h M (fun h=>?_) (fun h=>?_)
 ·exact aV<|bA br M<|aO br ae M<|fK<|au<|aI 4 M<|so h▸bH M M ⟨bg br M M M,aP M,aQ⟩
 ·refine ko<|aV<|bC false an 87<|K (bz sD)<|cb<|bm<|ca lu gG tE M<|c9 m8 M<|K (cj hI)<|cb<|av<|bE (k:=49) M fun hN=>ci ?_;refine aN (mX (h3:=fun ls i parts l c x=>(e.parts.drop i=ls)/\fH rec__ t deep e r1 ls i parts x=some R) (Of:=fun _ i parts l c x=>[fi an 87 l c parts,bx an 87 b x]) (Gf:=fun _ i parts l c x=>[(1,gM deep),(2,bw an t),(4,tV (ax b 0)),(6,bw an e),(9,bw Jb r1),(10,sO l c parts),(49,gP (an) e.parts),(50,jq e.parts),(51,cA (i:Int))]) (fun i parts l c x h=>?_) (fun e4 tl ih i parts l c x h=>?_) e.parts 0 Fu none 0 oC ⟨M,h⟩) (bv M)
  ·obtain⟨I,h⟩:=h
   refine eQ I M<|aB<|aV<|oE iy dP M<|ca C0 wd Jn M<|oE iy dP M<|ca kN fW aX M<|K (bP (y:=(⟨(2:Int),(0:Int),(0:Int),(0:Int),[],e.root.Left,e.root.Cond,[],[],[],[],(0:Int)⟩:aa)) dR EL io (⟨_,_,_,_,_,M,lO,M,hI,⟨_,_,_,_,_,M,zY,M,(D M),⟨_,_,_,_,_,M,lN,M,(D M),M⟩⟩⟩))<|bu M<|hD ?_;refine mW 10 M<|mW 81 M<|eg h KW (AH _ _) ⟨(D M),(mD (D M)),aQ⟩ fun r2 h=>bu M<|bS M M<|bS M M<|aC br eG M fun b3=>aO br ae M<|aD 15 M<|aT M<|bm<|bu M<|K (jn (D M))<|dq h M (fun h=>?_) (fun h=>?_)
   ·exact aV<|bA br M<|aS<|aO br ae M<|fK<|au<|aI 4 M<|aM<|so h▸bH M M ⟨bg br M M M,aP M,aQ⟩
   ·exact ko<|aV<|bA br M<|cy h fun e5 q_e5 h=>K (pi Be hU M (D M) hI q_e5)<|bA hU M<|eg h NR (KC hr__ _ _ _) (cm M) fun r3 h=>bS M M<|bS M M<|eg h KZ (C7 _ _) (cm M) fun r4 h=>bS M M<|bS M M<|aS<|aO br ae M<|bF M<|aI 4 M<|aM<|so h▸bH M M ⟨bg br M M M,aP M,aQ⟩
  ·obtain⟨I,h⟩:=h
   refine eP I M<|aJ<|av<|aY M<|iq m8 br M (fz I)<|aC br eG M fun b4=>jm M<|aO br ae M<|aD 12 M<|cb<|aJ ?_;refine cy h fun e6 q_e6 h=>cy h fun r5 q_r5 h=>?_
   refine jC 11 [tc (H an e4),tc (cA (i:Int)),tc (bw vA e6),tc (gP (ah) e6),tc (gM deep),tc (tT [H an r5.1,gM r5.2]),tc (tT [H an r5.1,gM r5.2]),tc (H an r5.1),tc (gM r5.2),([9],fun s=>tV (ax ((s.getD 0 qg).h 0).2 0)),tc (vF)] [false,false,false,false,false,false,false,false,false,true,true] [fun _=>[fi an 87 l c parts,bx an 87 b x],fun sg=>[bx an 87 ((sg 9).h 0).2 oC,fi an 87 l c parts,bx an 87 b x],fun sg=>[bx an 87 ((sg 9).h 0).2 r5.1,fi an 87 l c parts,bx an 87 b x]] M mixed M M M M M
    ⟨⟨[⟨12,fun _=>bw an e4,none⟩],_,0,1,M,⟨(fun _=>M),aQ⟩,M,M,M,M,M,fun _ sg _ _=>ac M (oI br M M)⟩,
    ⟨⟨[⟨11,fun _=>H cB (i:Int),none⟩],_,0,1,M,⟨(fun _=>M),aQ⟩,M,M,M,M,M,fun _ sg _ _=>ac M (m0 M)⟩,
    ⟨⟨[⟨9,fun _=>bw Jb r1,none⟩,⟨58,fun _=>H cB (i:Int),some 1⟩],_,0,1,M,⟨(fun _=>M),(fun _=>M),aQ⟩,M,M,M,M,M,fun _ sg _ _=>ac M (pi Be hU M (D M) (D M) q_e6)⟩,
    ⟨⟨[⟨59,fun _=>bw vA e6,some 2⟩],_,0,1,M,⟨(fun _=>M),aQ⟩,M,M,M,M,M,fun _ sg _ _=>ac M (oI hU M M)⟩,
    ⟨⟨[⟨1,fun _=>H rB deep,none⟩],_,0,1,M,⟨(fun _=>M),aQ⟩,M,M,M,M,M,fun _ sg _ _=>ac M (m0 M)⟩,
    ⟨⟨[⟨57,fun _=>H an e4,some 0⟩,⟨60,fun _=>H vA e6,some 3⟩,⟨61,fun _=>H rB deep,some 4⟩],_,0,1,M,⟨(fun _=>M),(fun _=>M),(fun _=>M),aQ⟩,M,M,M,M,M,fun _ sg _ _=>ac M (ce NR (KC hr__ _ _ _ q_r5) ⟨(D M),(D M),(D M),aQ⟩)⟩,
    ⟨⟨[⟨62,fun _=>tT [H an r5.1,H rB r5.2],some 5⟩],_,0,1,M,⟨(fun _=>M),aQ⟩,M,M,M,M,M,fun _ sg _ _=>ac M (m0 M)⟩,
    ⟨⟨[⟨56,fun _=>tT [H an r5.1,H rB r5.2],some 6⟩],_,0,1,M,⟨(fun _=>M),aQ⟩,M,M,M,M,M,fun _ sg _ _=>ac M (Bb M M)⟩,
    ⟨⟨[⟨56,fun _=>tT [H an r5.1,H rB r5.2],some 6⟩],_,0,2,M,⟨(fun _=>M),aQ⟩,M,M,M,M,M,fun _ sg _ _=>ac M (Bb M M)⟩,
    ⟨⟨[],_,M,aQ,M,M,M,fun sg=>cx M (lk br eG)⟩,
    ⟨⟨[⟨13,fun sg=>tV (ax ((sg 9).h 0).2 0),some 9⟩,⟨63,fun _=>H an r5.1,some 7⟩],_,M,⟨(fun _=>M),(fun _=>M),aQ⟩,M,M,M,fun sg=>cx M (gD br M (pQ ae) M (D M) (D M))⟩,
    aQ⟩⟩⟩⟩⟩⟩⟩⟩⟩⟩⟩ (fun sg=>?_)
   refine(show RG _ _ _ _ [_,_,_] _ from ?_);refine aD 13 M<|aT M<|bm<|bu M<|K (jn (D M))<|dq h M (fun h=>?_) (fun h=>?_)
   ·exact aV<|bA br M<|aS<|aO br ae M<|fK<|au<|eX<|au<|eX<|aI 4 M<|aM<|so h▸bH M M ⟨bg br M M M,aP M,aQ⟩
   ·refine ko<|aG<|bu M<|bA br M<|K (aR (r:=an) (ys:=[r5.1]) (xs:=[.tmp 69]) m8 br M M M M M ⟨(D M),aQ⟩)<|cy h fun parts1 q_parts1 h=>dm br M M M M m8 M M (D M) (D M) q_parts1 fun l1 c1=>jm M<|bq<|dQ I hN M ?_;exact bj (aN (ih (i+1) parts1 l1 c1 x ⟨dC I,h⟩) (bv M))

def MR s f{R}(h:dT s f=some R):cI bk 102 [gP (ap) s,(kq bk Ls rG (fun(x:aj)=>f x))] (cA R):=by
 refine eC Tryz.func102 M<|aV<|da<|cb<|bm<|bu M<|c9 gp M<|K (cj hI)<|cb<|av<|bE (k:=6) M fun hN=>ci ?_;refine aN (kX (h3:=fun ls i=>(s.drop i=ls)/\bY f ls i=some R) (Of:=fun _ i=>[]) (Gf:=fun _ i=>[(0,gP (ap) s),(1,(kq bk Ls rG (fun(x:aj)=>f x))),(7,jq s),(8,cA (i:Int))]) (fun i h=>?_) (fun e tl ih i h=>?_) s 0 ⟨M,h⟩) (bv M)
 ·obtain⟨I,h⟩:=h
  exact eQ I M<|aB<|aV<|fK<|so h▸bZ M M
 ·obtain⟨I,h⟩:=h
  refine eP I M<|aJ<|av<|aY M<|aT M<|aY M<|bu M<|bu M<|yw gp eY M (fz I) ?_;refine bA eY M<|cy h fun r q_r h=>K (mQ (args:=Ls) (res:=Fv) (f:=(fun(x:aj)=>f x)) (x:=((e):aj)) (D M) q_r ⟨(D M),aQ⟩)<|dq h M (fun h=>?_) (fun h=>?_)
  ·exact aY M<|bF M<|eX<|au<|eX<|so h▸bZ M M
  ·refine cg<|dQ I hN M ?_;exact bj (aN (ih (i+1) ⟨dC I,h⟩) (bv M))

def OW s f{R}(h:cK s f=some R):cI bk 72 [gP (ap) s,(kq bk Ls rG (fun(x:aj)=>f x))] (gM R):=by
 exact eC Tryz.func72 M<|aV<|cR<|cb<|aY M<|bu M<|eg h Rt (MR _ _) (cm M) fun r h=>K (gz (D M) hI)<|bF M<|so h▸bZ M M

def OV n{R}(h:nw n=some R):cI bk 73 [H ap n] (gM R):=by
 exact eC Tryz.func73 M<|aV<|dn M<|cR<|cb<|aV<|ca lv ep cn M<|eg h QN (Kp _) (cm M) fun r h=>bF M<|so h▸bZ M M

def C4 e{R}(h:j9 e=some R):cI bk 46 [H ah e] (gM R):=by
 refine eC Tryz.func46 M<|aV<|dn M<|cR<|cb<|aV<|bA aX M<|eg h KX (AI _) (cm M) fun r h=>dg M<|bu M<|cy h fun t q_t h=>aW M (gR dk cE M M)<|aW M (gQ iY M M) ?_
 obtain⟨r1,h1t,h0t⟩:=og q_t
 have q_r1g:=fun V=>(h1t V).1
 exact aW M (fun T=>ce Sn (OW _ _ (q_r1g T)) ⟨(dp M T),(OJ Sl fun x y h=>OV _ h),aQ⟩)<|aW M (yx M)<|K (fI (D M) (fun V=>(dp M V)) (fun V=>(h1t V).2) h0t)<|bF M<|so h▸bZ M M

def QB{rec__:Option (List (Int×(am->Bool->Option (am×Int))))}(hr__: ∀{R:(List (Int×(am->Bool->Option (am×Int))))},rec__=some R->cI bk 65 [] (I5 (fun y:(am->Bool->Option (am×Int))=>DK bk xx HS (fun(x:am×Bool)=>y x.1 x.2)) rF R)) t deep{R}(h:dF rec__ t deep=some R):cI bk 86 [H an t,gM deep] (tT [H an R.1,cA R.2]):=by
 refine eC Tryz.func86 M<|aV<|dn M<|aC br eG M fun b=>da<|cb<|aJ<|cy h fun e q_e h=>?_
 refine Fj 10 [tc (bw ak t.root),tc (bw ah t.root.Cond),tc (H ah t.root.Cond),tc (bw Bk t.parts),tc (gP (an) t.parts),tc (bw an e),tc (H an e),([7],fun s=>tV (ax ((s.getD 0 qg).h 0).2 0)),([8],fun s=>tV (ax ((s.getD 0 qg).h 0).2 0)),tc (vF)] [false,false,false,false,false,false,false,true,true,true] [([],fun _=>[bx an 87 b oC]),([7],fun sg=>[bx ah 27 ((sg 7).h 0).2 kp,bx an 87 b oC]),([8],fun sg=>[bx an 87 ((sg 8).h 0).2 oC,bx an 87 b oC]),([7,8],fun sg=>[bx an 87 ((sg 8).h 0).2 oC,bx ah 27 ((sg 7).h 0).2 kp,bx an 87 b oC]),([7,8,9],fun sg=>[bx ah 27 ((sg 7).h 0).2 t.root.Cond,bx an 87 ((sg 8).h 0).2 oC,bx an 87 b oC])] (fun _=>M) mixed M M M M
  ⟨⟨[⟨2,fun _=>bw an t,none⟩],_,[[],[7],[8],[7,8]],M,⟨(fun _=>M),aQ⟩,M,M,M,M,M,⟨fun sg=>ac M (nG iy dP M M),fun sg=>ac M (nG iy dP M M),fun sg=>ac M (nG iy dP M M),fun sg=>ac M (nG iy dP M M),aQ⟩⟩,
  ⟨⟨[⟨11,fun _=>bw ak t.root,some 0⟩],_,[[],[7],[8],[7,8]],M,⟨(fun _=>M),aQ⟩,M,M,M,M,M,⟨fun sg=>ac M (nG kN fW M M),fun sg=>ac M (nG kN fW M M),fun sg=>ac M (nG kN fW M M),fun sg=>ac M (nG kN fW M M),aQ⟩⟩,
  ⟨⟨[⟨12,fun _=>bw ah t.root.Cond,some 1⟩],_,[[],[7],[8],[7,8]],M,⟨(fun _=>M),aQ⟩,M,M,M,M,M,⟨fun sg=>ac M (oI aX M M),fun sg=>ac M (oI aX M M),fun sg=>ac M (oI aX M M),fun sg=>ac M (oI aX M M),aQ⟩⟩,
  ⟨⟨[⟨2,fun _=>bw an t,none⟩],_,[[],[7],[8],[7,8],[7,8,9]],M,⟨(fun _=>M),aQ⟩,M,M,M,M,M,⟨fun sg=>ac M (nG lu gG M M),fun sg=>ac M (nG lu gG M M),fun sg=>ac M (nG lu gG M M),fun sg=>ac M (nG lu gG M M),fun sg=>ac M (nG lu gG M M),aQ⟩⟩,
  ⟨⟨[⟨14,fun _=>bw Bk t.parts,some 3⟩],_,[[],[7],[8],[7,8],[7,8,9]],M,⟨(fun _=>M),aQ⟩,M,M,M,M,M,⟨fun sg=>ac M (oI tE M M),fun sg=>ac M (oI tE M M),fun sg=>ac M (oI tE M M),fun sg=>ac M (oI tE M M),fun sg=>ac M (oI tE M M),aQ⟩⟩,
  ⟨⟨[⟨15,fun _=>H Bk t.parts,some 4⟩],_,[[],[7],[8],[7,8],[7,8,9]],M,⟨(fun _=>M),aQ⟩,M,M,M,M,M,⟨fun sg=>ac M (bn m8 br M (D M) hI q_e),fun sg=>ac M (bn m8 br M (D M) hI q_e),fun sg=>ac M (bn m8 br M (D M) hI q_e),fun sg=>ac M (bn m8 br M (D M) hI q_e),fun sg=>ac M (bn m8 br M (D M) hI q_e),aQ⟩⟩,
  ⟨⟨[⟨16,fun _=>bw an e,some 5⟩],_,[[],[7],[8],[7,8],[7,8,9]],M,⟨(fun _=>M),aQ⟩,M,M,M,M,M,⟨fun sg=>ac M (oI br M M),fun sg=>ac M (oI br M M),fun sg=>ac M (oI br M M),fun sg=>ac M (oI br M M),fun sg=>ac M (oI br M M),aQ⟩⟩,
  ⟨⟨[],_,[([],[7]),([8],[7,8])],M,aQ,M,M,M,M,M,⟨fun sg=>cx M (lk aX cF),fun sg=>cx M (EffOK.post_imp (post:=fun x__=>(fun(sg:Nat->OI)=>[bx ah 27 ((sg 7).h 0).2 kp,bx an 87 ((sg 8).h 0).2 oC,bx an 87 b oC]) (Fo sg 7 x__)) (lk aX cF) (fun h=>cZ.pick [1,0,2] M h)),aQ⟩⟩,
  ⟨⟨[],_,[([],[8]),([7],[7,8])],M,aQ,M,M,M,M,M,⟨fun sg=>cx M (lk br eG),fun sg=>cx M (lk br eG),aQ⟩⟩,
  ⟨⟨[⟨6,fun sg=>tV (ax ((sg 7).h 0).2 0),some 7⟩,⟨13,fun _=>H ah t.root.Cond,some 2⟩],_,[([7,8],[7,8,9])],M,⟨(fun _=>M),(fun _=>M),aQ⟩,M,M,M,M,M,⟨fun sg=>cx M (EffOK.fr1 (gD aX M (pQ ae) M (D M) (D M))),aQ⟩⟩,
  aQ⟩⟩⟩⟩⟩⟩⟩⟩⟩⟩ (fun sg=>?_)
 refine(show RG _ _ _ _ [_,_,_] _ from ?_);refine aD 6 M<|aO br ae M<|aD 7 M<|cb<|aV<|bA aX M<|eg h Nh (C4 _) (cm M) fun r h=>aT M<|aJ<|av<|aJ<|cy h fun t1 q_t1 h=>?_
 obtain⟨e1,h1t1,h0t1⟩:=og q_t1
 have q_e1g:=fun V=>(h1t1 V).1
 obtain⟨r1,h1t1⟩:=Qj (fun V=>(h1t1 V).2)
 have q_r1g:=fun V=>(h1t1 V).1
 refine im (ts:=[_,_,_,_,_,_,_,_,_,_,_,_,_,_]) mixed M M
  ⟨pN 6 M M (nG dk cE M M),
  ⟨jF 0 iY M M,
  ⟨eH 22 1 M M (PJ gp M),
  ⟨eH 23 2 M M (PA M),
  ⟨eH 24 3 M M (m0 M),
  ⟨tB 6 25 4 M M M (cu M M M M (fun T=>nG dk cE M M)),
  ⟨iE 26 5 25 4 M M M (cu M M M M (fun T=>ic iY M M (dp M T))),
  ⟨iE 27 6 25 4 M M M (cu M M M M (fun T=>bn gp eY M (dp M T) hI (q_e1g T))),
  ⟨iE 28 7 25 4 M M M (cu M M M M (fun T=>iN xW M kH M (dp M T))),
  ⟨iE 29 8 25 4 M M M (cu M M M M (fun T=>ic pO M M (dp M T))),
  ⟨zes 25 4 M M (cu M M M M (fun T=>ce Ro (MO _ (q_r1g T)) ⟨hB,aQ⟩)),
  ⟨BI 30 9 31 10 25 4 M M M M (cu M M M M (fun T=>CR MW (dp M T) (dp M T))),
  ⟨gr 25 4 32 11 M M M (fI (D M) (fun V=>(dp M V)) (fun V=>(h1t1 V).2) h0t1),
  ⟨eH 33 12 M M (zy M),
  aQ⟩⟩⟩⟩⟩⟩⟩⟩⟩⟩⟩⟩⟩⟩ ?_
 refine aB<|o8 h M (fun h=>?_) (fun h=>?_)
 ·exact aV<|bA br M<|aO br ae M<|fK<|eX<|aI 4 M<|so h▸bH M M ⟨bg br M M M,aP M,aQ⟩
 ·refine aV<|oE iy dP M<|ca nk fX cn M<|dg M<|bu M<|aW M (fL M)<|hM M<|aT M<|o8 h M (fun h=>?_) (fun h=>?_)
  ·refine aV<|oE iy dP M<|ca kN fW aX M<|bA aX M<|K (aR (r:=ah) (ys:=[e.root.Cond,t.root.Cond]) (xs:=[.tmp 46,.tmp 47]) lJ aX M M M M M ⟨(D M),(D M),aQ⟩)<|eg h NX (Hv _) (cm M) fun r2 h=>bu M<|bS M M<|bS M M<|aC aX cF M fun b1=>aO aX ae M<|aD 9 M<|aT M<|bm<|bu M<|jS M<|bq ?_;refine aB<|o8 h M (fun h=>?_) (fun h=>?_)
   ·exact aV<|bA br M<|aO br ae M<|fK<|au<|eX<|aI 4 M<|so h▸bH M M ⟨bg br M M M,aP M,aQ⟩
   ·refine ko<|aJ<|cy h fun e2 q_e2 h=>cy h fun r3 q_r3 h=>cy h fun r4 q_r4 h=>?_
    refine kh 13 (ts:=[H ah r2.1,H ak (⟨(3:Int),(0:Int),(0:Int),(0:Int),[],false,r2.1,[],[],[],[],(0:Int)⟩:aa),bw Bk e.parts,gP (an) e.parts,bw an e2,H an e2,gP (an) ([e2]),tT [H an r3.1,gM r3.2],H an r3.1,gM r3.2,tT [H an r4.1,cA r4.2],H an r4.1,cA r4.2]) mixed M M M
     ⟨pN 9 M M (oI aX M M),
     ⟨eH 55 0 M M (bP (y:=(⟨(3:Int),(0:Int),(0:Int),(0:Int),[],false,r2.1,[],[],[],[],(0:Int)⟩:aa)) dR EL io (⟨_,_,_,_,_,M,lO,M,hI,⟨_,_,_,_,_,M,lN,M,(D M),M⟩⟩)),
     ⟨pN 7 M M (nG lu gG M M),
     ⟨jF 2 tE M M,
     ⟨eH 58 3 M M (bn m8 br M (D M) hI q_e2),
     ⟨jF 4 br M M,
     ⟨eH 60 5 M M (aR (r:=an) (ys:=[e2]) (xs:=[.tmp 60]) m8 br M M M M M ⟨(D M),aQ⟩),
     ⟨gr 56 1 61 6 M M M (ce KW (AH _ _ q_r3) ⟨(D M),(D M),aQ⟩),
     ⟨eH 62 7 M M (Bb M M),
     ⟨eH 62 7 M M (Bb M M),
     ⟨gr 63 8 64 9 M M M (ce KZ (C7 _ _ q_r4) ⟨(D M),(D M),aQ⟩),
     ⟨eH 65 10 M M (Bb M M),
     ⟨eH 65 10 M M (Bb M M),
     aQ⟩⟩⟩⟩⟩⟩⟩⟩⟩⟩⟩⟩⟩ ?_
    exact aO br ae M<|bF M<|eX<|aI 4 M<|so h▸bH M M ⟨bg br M M M,aP M,aQ⟩
  ·refine aV<|oE iy dP M<|ca nk fX cn M<|dg M<|bu M<|aW M (fL M)<|hM M<|bu M<|cy h fun t2 q_t2 h=>aW M (gR iy dP M M)<|aW M (fun T=>iN kN M fW M (dp M T))<|aW M (gQ aX M M) ?_
   obtain⟨r5,h1t2,h0t2⟩:=og q_t2
   have q_r5g:=fun V=>(h1t2 V).1
   refine aW M (fun T=>ce Nh (C4 _ (q_r5g T)) ⟨(dp M T),aQ⟩)<|K (fI (D M) (fun V=>(dp M V)) (fun V=>(h1t2 V).2) h0t2)<|aT M<|o8 h M (fun h=>?_) (fun h=>?_)
   ·exact aV<|bA br M<|bu M<|eg h Rn (Ph hr__ _ _) (cm M) fun r6 h=>bS M M<|bS M M<|aO br ae M<|bF M<|eX<|aI 4 M<|so h▸bH M M ⟨bg br M M M,aP M,aQ⟩
   ·exact cg<|bh<|aB<|aV<|bA br M<|aO br ae M<|fK<|aI 4 M<|so h▸bH M M ⟨bg br M M M,aP M,aQ⟩

def MN e{R}(h:iD e=some R):cI bk 123 [H ah e] (gM R):=by
 exact eC Tryz.func123 M<|aV<|dn M<|cR<|cb<|aV<|bA aX M<|eg h Nh (C4 _) (cm M) fun r h=>K (jn (D M))<|bF M<|so h▸bZ M M

def KA(b:Nat)(l:Option Nat)(c:Nat) stack k{R}(h:jA stack k=some R):fg bk 157 [cA k,tV (ax b 0)] [bx rV 22 b (aK l c stack.length),fi ah 27 l c stack] (fun i:OI=>gP (ah) R.1) (fun i=>[bx rV 22 b (aK (i.h 0).1 (i.h 0).2 R.2.length),fi ah 27 (i.h 0).1 (i.h 0).2 R.2]):=by
 refine fg.of Tryz.func157 M M M fun w0 S0=>aV<|oF (ah)<|cb<|aV<|K (kS hU (.head _) (D M))<|K (kS hU (.head _) (D M))<|K (eU lJ (.tail _ (.head _)) (D M))<|bu M<|K (fN (D M) (D M))<|cy h fun y q_y h=>K (pB lJ aX M (.tail _ (.head _)) (D M) (D M) q_y)<|ox (.tail _ (.head _)) q_y fun hv=>aS<|cy h fun r q_r h=>uC [fi ah 27 l c stack] _ M NY (Pi q_y q_r) ⟨(D M),aQ⟩ M fun i=>?_;refine(show RG _ _ _ _ [_,_,_] _ from ?_);refine aT M<|aV<|K (kS hU (.tail _ (.tail _ (.head _))) (D M))<|K (kS hU (.tail _ (.tail _ (.head _))) (D M))<|K (eU lJ (.tail _ (.head _)) (D M))<|bu M<|K (fN (D M) (D M))<|cy h fun y1 q_y1 h=>K (nu lJ aX M (.tail _ (.head _)) (D M) (D M) q_y1)<|aS<|yg q_y1<|dl<|cW hU M ae M (D M) (Bx (D M))<|cb<|aY M<|aT M ?_;exact lz<|aH<|o6<|fC 3 M<|fC 11 M<|fC 4 M<|fC 18 M<|o7 3 M<|aM<|bp<|bp<|so h▸mY M (oi l c) M M (fun _ _ h=>h)

def MC e do1{R}(h:jd e do1=some R):cI bk 146 [H ah e,(kq bk Lx Lu (fun(x:aj×(List ai))=>do1 x.1 x.2))] (tT [H ah R.1,cA R.2]):=by
 refine eC Tryz.func146 M<|aV<|dn M<|aC aX cF M fun b=>da<|cb<|A6<|aV<|bC false ah 27<|aC (x:=aK none 0 0) hU (fun _=>Jz) M fun b1=>cb<|aV<|aC aX cF M fun b2=>aD 7 M<|cb<|aV<|K (Ed (cts:=[tV (ax b1 0)]) (caps:=[.tmp 6]) ⟨(D M),aQ⟩) ?_;refine aT M<|aV<|da<|cb<|aJ<|A7<|aB<|bm<|ca dk cE iY M<|c9 gp M<|K (cj hI)<|cb ?_;refine Cn (h3:=fun bad stack l c=>lw bad stack=some R) (Of:=fun bad stack l c=>[bx ah 27 b kp,bx rV 22 b1 (aK l c stack.length),fi ah 27 l c stack]) (Gf:=fun bad stack l c=>[(4,tV (ax b 0)),(6,tV (ax b1 0)),(7,bw ah kp),(9,cA bad)]) (fun bad stack l c h=>?_) (fun af=>?_)
 ·skip
  refine aB<|bm<|bu M<|jS M<|dq h M (fun h=>?_) (fun h=>?_)
  ·exact aV<|bA aX M<|bu M<|aO aX ae M<|bF M<|au<|qo<|aI 4 M<|aM<|aM<|so h▸bH M M ⟨bg aX M M M,aP M,aQ⟩
  ·exact ko<|aV<|K (kS hU (.tail _ (.head _)) (D M))<|cy h fun e1 q_e1 h=>K (bW lJ aX (.tail _ (.tail _ (.head _))) (D M) hI q_e1)<|K (dd (r:=ah) (i:=(0:Int)) (foff:=0) aX M M bN M (.tail _ (.tail _ (.head _))) q_e1 (D M))<|aO aX ae M<|fK<|qo<|aI 4 M<|aM<|aM<|so h▸bH M M ⟨bg aX M M M,aP M,aQ⟩
 ·skip
  refine bE (k:=16) M fun hN=>ci<|cX<|cX<|eT ?_;refine aN (mX (h3:=fun ls i bad1 stack1 l1 c1=>(e.Nodes.drop i=ls)/\dS do1 ls bad1 stack1=some R) (Of:=fun _ i bad1 stack1 l1 c1=>[bx ah 27 b kp,bx rV 22 b1 (aK l1 c1 stack1.length),fi ah 27 l1 c1 stack1]) (Gf:=fun _ i bad1 stack1 l1 c1=>[(1,(kq bk Lx Lu (fun(x:aj×(List ai))=>do1 x.1 x.2))),(4,tV (ax b 0)),(6,tV (ax b1 0)),(7,bw ah kp),(8,tC 157 [tV (ax b1 0)]),(9,cA bad1),(16,gP (ap) e.Nodes),(17,jq e.Nodes),(18,cA (i:Int))]) (fun i bad1 stack1 l1 c1 h=>?_) (fun e2 tl ih i bad1 stack1 l1 c1 h=>?_) e.Nodes 0 (0:Int) vB none 0 ⟨M,h⟩) (bv M)
  ·obtain⟨I,h⟩:=h
   refine eQ I M ?_;exact cT (af bad1 stack1 l1 c1 h) (bv M)
  ·obtain⟨I,h⟩:=h
   refine eP I M<|aJ<|av<|aV<|iq gp eY M (fz I)<|aC eY ip M fun b3=>aO eY ae M<|aD 11 M<|cb<|aJ<|cy h fun r q_r h=>cy h fun r1 q_r1 h=>?_;refine cy h fun r2 q_r2 h=>?_
   refine Fj 13 [tc ((kq bk Lx Lu (fun(x:aj×(List ai))=>do1 x.1 x.2))),tc (H ap e2),tc (tC 157 [tV (ax b1 0)]),tc (bw cB e2.Tag),tc (cA e2.Tag),tc (cA r),tc (gP (ah) r1.1),tc (tT [H ah r2.1,cA r2.2]),tc (tT [H ah r2.1,cA r2.2]),tc (H ah r2.1),tc (cA r2.2),([11],fun s=>tV (ax ((s.getD 0 qg).h 0).2 0)),tc (vF)] [false,false,false,false,false,false,true,false,false,false,false,true,true] [([],fun _=>[bx ah 27 b kp,bx rV 22 b1 (aK l1 c1 stack1.length),fi ah 27 l1 c1 stack1]),([6],fun sg=>[bx rV 22 b1 (aK ((sg 6).h 0).1 ((sg 6).h 0).2 r1.2.length),fi ah 27 ((sg 6).h 0).1 ((sg 6).h 0).2 r1.2,bx ah 27 b kp]),([11],fun sg=>[bx ah 27 ((sg 11).h 0).2 kp,bx ah 27 b kp,bx rV 22 b1 (aK l1 c1 stack1.length),fi ah 27 l1 c1 stack1]),([6,11],fun sg=>[bx ah 27 ((sg 11).h 0).2 kp,bx rV 22 b1 (aK ((sg 6).h 0).1 ((sg 6).h 0).2 r1.2.length),fi ah 27 ((sg 6).h 0).1 ((sg 6).h 0).2 r1.2,bx ah 27 b kp]),([6,11,12],fun sg=>[bx ah 27 ((sg 11).h 0).2 r2.1,bx rV 22 b1 (aK ((sg 6).h 0).1 ((sg 6).h 0).2 r1.2.length),fi ah 27 ((sg 6).h 0).1 ((sg 6).h 0).2 r1.2,bx ah 27 b kp])] (fun _=>M) mixed M M M M
    ⟨⟨[⟨1,fun _=>(kq bk Ly Lv (fun(x:aj×(List ai))=>do1 x.1 x.2)),none⟩],_,[[],[6],[11],[6,11]],M,⟨(fun _=>M),aQ⟩,M,M,M,M,M,⟨fun sg=>ac M (m0 M),fun sg=>ac M (m0 M),fun sg=>ac M (m0 M),fun sg=>ac M (m0 M),aQ⟩⟩,
    ⟨⟨[⟨11,fun _=>bw ap e2,none⟩],_,[[],[6],[11],[6,11]],M,⟨(fun _=>M),aQ⟩,M,M,M,M,M,⟨fun sg=>ac M (oI eY M M),fun sg=>ac M (oI eY M M),fun sg=>ac M (oI eY M M),fun sg=>ac M (oI eY M M),aQ⟩⟩,
    ⟨⟨[⟨8,fun _=>tC 157 [tV (ax b1 0)],none⟩],_,[[],[11]],M,⟨(fun _=>M),aQ⟩,M,M,M,M,M,⟨fun sg=>ac M (m0 M),fun sg=>ac M (m0 M),aQ⟩⟩,
    ⟨⟨[⟨11,fun _=>bw ap e2,none⟩],_,[[],[11]],M,⟨(fun _=>M),aQ⟩,M,M,M,M,M,⟨fun sg=>ac M (nG lv ep M M),fun sg=>ac M (nG lv ep M M),aQ⟩⟩,
    ⟨⟨[⟨26,fun _=>bw cB e2.Tag,some 3⟩],_,[[],[11]],M,⟨(fun _=>M),aQ⟩,M,M,M,M,M,⟨fun sg=>ac M (oI cn M M),fun sg=>ac M (oI cn M M),aQ⟩⟩,
    ⟨⟨[⟨27,fun _=>H cB e2.Tag,some 4⟩],_,[[],[11]],M,⟨(fun _=>M),aQ⟩,M,M,M,M,M,⟨fun sg=>ac M (ce Ng (C2 _ q_r) ⟨(D M),aQ⟩),fun sg=>ac M (ce Ng (C2 _ q_r) ⟨(D M),aQ⟩),aQ⟩⟩,
    ⟨⟨[⟨25,fun _=>tC 157 [tV (ax b1 0)],some 2⟩,⟨28,fun _=>H cB r,some 5⟩],_,[([],[6]),([11],[6,11])],M,⟨(fun _=>M),(fun _=>M),aQ⟩,M,M,M,M,M,⟨fun sg=>cx M (EffOK.fr2 (EffOK.fr2 (x8 (xs:=[.tmp 28]) (ts:=[H cB r]) (cts:=[tV (ax b1 0)]) [bx rV 22 b1 (aK l1 c1 stack1.length),fi ah 27 l1 c1 stack1] _ M NQ (KA b1 l1 c1 _ _ q_r1) (D M) ⟨(D M),aQ⟩ (fun _=>M)))),fun sg=>cx M (EffOK.post_imp (post:=fun x__=>(fun(sg:Nat->OI)=>[bx rV 22 b1 (aK ((sg 6).h 0).1 ((sg 6).h 0).2 r1.2.length),fi ah 27 ((sg 6).h 0).1 ((sg 6).h 0).2 r1.2,bx ah 27 ((sg 11).h 0).2 kp,bx ah 27 b kp]) (Fo sg 6 x__)) (EffOK.fr3 (EffOK.fr3 (x8 (xs:=[.tmp 28]) (ts:=[H cB r]) (cts:=[tV (ax b1 0)]) [bx rV 22 b1 (aK l1 c1 stack1.length),fi ah 27 l1 c1 stack1] _ M NQ (KA b1 l1 c1 _ _ q_r1) (D M) ⟨(D M),aQ⟩ (fun _=>M)))) (fun h=>cZ.pick [2,0,1,3] M h)),aQ⟩⟩,
    ⟨⟨[⟨23,fun _=>(kq bk Ly Lv (fun(x:aj×(List ai))=>do1 x.1 x.2)),some 0⟩,⟨24,fun _=>H ap e2,some 1⟩,⟨29,fun _=>H vA r1.1,some 6⟩],_,[[6],[6,11]],M,⟨(fun _=>M),(fun _=>M),(fun _=>M),aQ⟩,M,M,M,M,M,⟨fun sg=>ac M (mQ (args:=Ly) (res:=Lv) (f:=(fun(x:aj×(List ai))=>do1 x.1 x.2)) (x:=((e2,r1.1):aj×(List ai))) (D M) q_r2 ⟨(D M),(D M),aQ⟩),fun sg=>ac M (mQ (args:=Ly) (res:=Lv) (f:=(fun(x:aj×(List ai))=>do1 x.1 x.2)) (x:=((e2,r1.1):aj×(List ai))) (D M) q_r2 ⟨(D M),(D M),aQ⟩),aQ⟩⟩,
    ⟨⟨[⟨30,fun _=>tT [H ah r2.1,H cB r2.2],some 7⟩],_,[[6],[6,11]],M,⟨(fun _=>M),aQ⟩,M,M,M,M,M,⟨fun sg=>ac M (m0 M),fun sg=>ac M (m0 M),aQ⟩⟩,
    ⟨⟨[⟨22,fun _=>tT [H ah r2.1,H cB r2.2],some 8⟩],_,[[6],[6,11]],M,⟨(fun _=>M),aQ⟩,M,M,M,M,M,⟨fun sg=>ac M (Bb M M),fun sg=>ac M (Bb M M),aQ⟩⟩,
    ⟨⟨[⟨22,fun _=>tT [H ah r2.1,H cB r2.2],some 8⟩],_,[[6],[6,11],[6,11,12]],M,⟨(fun _=>M),aQ⟩,M,M,M,M,M,⟨fun sg=>ac M (Bb M M),fun sg=>ac M (Bb M M),fun sg=>ac M (Bb M M),aQ⟩⟩,
    ⟨⟨[],_,[([],[11]),([6],[6,11])],M,aQ,M,M,M,M,M,⟨fun sg=>cx M (lk aX cF),fun sg=>cx M (lk aX cF),aQ⟩⟩,
    ⟨⟨[⟨12,fun sg=>tV (ax ((sg 11).h 0).2 0),some 11⟩,⟨31,fun _=>H ah r2.1,some 9⟩],_,[([6,11],[6,11,12])],M,⟨(fun _=>M),(fun _=>M),aQ⟩,M,M,M,M,M,⟨fun sg=>cx M (gD aX M (pQ ae) M (D M) (D M)),aQ⟩⟩,
    aQ⟩⟩⟩⟩⟩⟩⟩⟩⟩⟩⟩⟩⟩ (fun sg=>?_)
   refine(show RG _ _ _ _ [_,_,_,_] _ from ?_);refine aD 12 M<|aT M<|bm<|bu M<|jS M<|dq h M (fun h=>?_) (fun h=>?_)
   ·refine aY M<|aT M<|il<|aL<|bX M<|aL<|aL<|dM<|bp<|bp<|aH ?_;exact cT (af r2.2 r1.2 ((sg 6).h 0).1 ((sg 6).h 0).2 h) (bv M)
   ·refine ko<|aG<|K (kS hU (.head _) (D M))<|bA aX M<|K (aR (r:=ah) (ys:=[r2.1]) (xs:=[.tmp 37]) lJ aX M M M M M ⟨(D M),aQ⟩)<|aS<|cy h fun l2 q_l2 h=>dm aX M M M M lJ M M (D M) (D M) q_l2 fun l3 c2=>aS<|cW hU M ae M (D M) (Bx (D M))<|bq<|dQ I hN M<|bp<|bp<|aH ?_;exact bj (aN (ih (i+1) bad1 l2 l3 c2 ⟨dC I,h⟩) (bv M))

end Go.Proofs.YtbmmihfagmchaaaGreat

