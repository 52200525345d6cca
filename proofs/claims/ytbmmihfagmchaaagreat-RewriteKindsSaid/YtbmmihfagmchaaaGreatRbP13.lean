/- cP of this claim: P13. -/
import Derived.Test.YtbmmihfagmchaaaGreatRbT
import Derived.Test.YtbmmihfagmchaaaGreatRbP12
set_option linter.all false
namespace Go.Proofs.YtbmmihfagmchaaaGreat
open Go
set_option maxRecDepth 100000

def Kz s1 s2{R}(h:ir s1 s2=some R):cI bk 17 [lI s1,lI s2] (gM R):=by
 refine eC Tryz.func17 M<|aV<|cR<|cb<|bm<|bu M<|c9 fS M<|bu M<|c9 fS M<|K (mn (D M) (D M))<|dq h M (fun h=>?_) (fun h=>?_)
 ·exact aV<|cR<|dG<|au<|so h▸bZ M M
 ·refine ko<|bm<|bu M<|c9 fS M<|K (cj hI)<|cb<|av<|bE (k:=11) M fun hN=>ci ?_;refine aN (kX (h3:=fun ls i=>(s1.drop i=ls)/\fZ s2 ls i=some R) (Of:=fun _ i=>[]) (Gf:=fun _ i=>[(0,lI s1),(1,lI s2),(12,jq s1),(13,cA (i:Int))]) (fun i h=>?_) (fun e tl ih i h=>?_) s1 0 ⟨M,h⟩) (bv M)
  ·obtain⟨I,h⟩:=h
   exact eQ I M<|aB<|aV<|cR<|dG<|so h▸bZ M M
  ·obtain⟨I,h⟩:=h
   refine eP I M<|aJ<|av<|aY M<|aT M<|aJ<|cy h fun e1 q_e1 h=>?_
   refine im (ts:=[_,_,_,_,_,_,_,_,_]) mixed M M
    ⟨jt M M,
    ⟨jt M M,
    ⟨gr 16 0 17 1 M M M (LA fS cn M M M (fz I)),
    ⟨jF 2 cn M M,
    ⟨jt M M,
    ⟨jt M M,
    ⟨gr 20 4 21 5 M M M (LA fS cn M M M q_e1),
    ⟨jF 6 cn M M,
    ⟨gr 19 3 23 7 M M M (mn (D M) (D M)),
    aQ⟩⟩⟩⟩⟩⟩⟩⟩⟩ ?_
   refine aB<|o8 h M (fun h=>?_) (fun h=>?_)
   ·exact aV<|cR<|dG<|eX<|au<|eX<|so h▸bZ M M
   ·refine cg<|dQ I hN M ?_;exact bj (aN (ih (i+1) ⟨dC I,h⟩) (bv M))

def O6 e{R}(h:fy e=some R):cI bk 45 [H ah e] (gM R):=by
 refine eC Tryz.func45 M<|aV<|dn M<|cR<|cb<|aV<|ca dk cE iY M<|c9 gp M<|K (s4 (D M) hI)<|bu M<|cy h fun t q_t h=>aW M (fun T=>oI aX M M) ?_
 obtain⟨r,h1t,h0t⟩:=og q_t
 have q_rg:=fun V=>(h1t V).1
 exact aW M (fun T=>ce Nh (C4 _ (q_rg T)) ⟨(dp M T),aQ⟩)<|aW M (yx M)<|K (fI (D M) (fun V=>(dp M V)) (fun V=>(h1t V).2) h0t)<|bF M<|so h▸bZ M M

def O5 unsafe1 a1{R}(h:mq unsafe1 a1=some R):cI bk 47 [H dt a1,bw (rT ((kq bk DB rG (fun(x:ai)=>unsafe1 x)))) ()] (gM R):=by
 refine eC Tryz.func47 M<|aV<|dn M<|cR<|cb<|aV<|ca Gl AA cn M<|dg M<|bu M<|cy h fun t q_t h=>bL M (fun T=>wO Jo (D M))<|bL M (gR we sF M M)<|bL M (gQ aX M M) ?_
 obtain⟨r,h1t,h0t⟩:=og q_t
 have q_rg:=fun V=>(h1t V).1
 exact bL M (fun T=>mQ (args:=DB) (res:=Fv) (f:=(fun(x:ai)=>unsafe1 x)) (x:=((a1.Arg):ai)) (dp M T) (q_rg T) ⟨(dp M T),aQ⟩)<|K (kD (D M) (fun V=>(dp M (xO V))) (fun V=>(h1t V).2) h0t)<|bF M<|so h▸bZ M M

def OT s f{R}(h:gv s f=some R):cI bk 76 [gP (dt) s,(kq bk Jd rG (fun(x:ik)=>f x))] (cA R):=by
 refine eC Tryz.func76 M<|aV<|da<|cb<|bm<|bu M<|c9 rE M<|K (cj hI)<|cb<|av<|bE (k:=6) M fun hN=>ci ?_;refine aN (kX (h3:=fun ls i=>(s.drop i=ls)/\di f ls i=some R) (Of:=fun _ i=>[]) (Gf:=fun _ i=>[(0,gP (dt) s),(1,(kq bk Jd rG (fun(x:ik)=>f x))),(7,jq s),(8,cA (i:Int))]) (fun i h=>?_) (fun e tl ih i h=>?_) s 0 ⟨M,h⟩) (bv M)
 ·obtain⟨I,h⟩:=h
  exact eQ I M<|aB<|aV<|fK<|so h▸bZ M M
 ·obtain⟨I,h⟩:=h
  refine eP I M<|aJ<|av<|aY M<|aT M<|aY M<|bu M<|bu M<|yw rE tF M (fz I) ?_;refine bA tF M<|cy h fun r q_r h=>K (mQ (args:=Jd) (res:=Fv) (f:=(fun(x:ik)=>f x)) (x:=((e):ik)) (D M) q_r ⟨(D M),aQ⟩)<|dq h M (fun h=>?_) (fun h=>?_)
  ·exact aY M<|bF M<|eX<|au<|eX<|so h▸bZ M M
  ·refine cg<|dQ I hN M ?_;exact bj (aN (ih (i+1) ⟨dC I,h⟩) (bv M))

def O4 s f{R}(h:d9 s f=some R):cI bk 49 [gP (dt) s,(kq bk Jd rG (fun(x:ik)=>f x))] (gM R):=by
 exact eC Tryz.func49 M<|aV<|cR<|cb<|aY M<|bu M<|eg h Sj (OT _ _) (cm M) fun r h=>K (gz (D M) hI)<|bF M<|so h▸bZ M M

def Ky l{R}(h:oV l=some R):cI bk 18 [H ay l] (gM R):=by
 refine eC Tryz.func18 M<|aV<|dn M<|cR<|cb<|bm<|bA cJ M<|eg h IJ (xY _) (cm M) fun r h=>bu M<|bS M M<|bS M M<|jm M<|aT M<|aY M<|jS M ?_;refine dq h M (fun h=>?_) (fun h=>?_)
 ·exact aV<|cR<|dG<|au<|so h▸bZ M M
 ·refine ko<|aV<|aC (r:=rV) (x:= .nilFunc) Jo (fun _=>⟨M,M⟩) M fun b=>tm (gD (r' :=rT (HU)) (x' :=()) (q:=rT (HU)) (y:=()) Jo M (iC M) M (D M) (hTT LS (show aE _ _ _ (HU)from(OJ SB fun x y h=>O6 _ h)))) fun _=>?_;refine(show RG _ _ _ _ (bx (rT (HU)) 32 b ()::_) _ from ?_);refine aD 5 M<|cb<|bm<|ca fY d5 na M<|c9 jR M<|K (cj hI)<|cb<|av<|bE (k:=17) M fun hN=>ci ?_;refine aN (kX (h3:=fun ls i=>(l.Nodes.drop i=ls)/\mT ls=some R) (Of:=fun _ i=>[]) (Gf:=fun _ i=>[(5,bw (rT (HU)) ()),(17,gP (ak) l.Nodes),(18,jq l.Nodes),(19,cA (i:Int))]) (fun i h=>?_) (fun e tl ih i h=>?_) l.Nodes 0 ⟨M,h⟩) (bv M)
  ·obtain⟨I,h⟩:=h
   exact eQ I M<|aB<|aV<|cR<|dG<|so h▸bZ M M
  ·obtain⟨I,h⟩:=h
   refine eP I M<|aJ<|av<|aV<|iq jR dR M (fz I)<|aC dR io M fun b1=>aO dR ae M<|aD 7 M<|cb<|aV<|K ((show bR _ _ _ _ ((kq bk Jd rG (fun(x:ik)=>(mq fy) x)))from pD (cts:=[bw (rT (HU)) ()]) (caps:=[.tmp 5]) SA ⟨(D M),aQ⟩ (fun x y h=>O5 _ _ h))) ?_;refine aT M<|aV<|K (wO Jo (D M))<|ca kN fW aX M<|cy h fun r1 q_r1 h=>K (mQ (args:=DB) (res:=Fv) (f:=(fun(x:ai)=>fy x)) (x:=((e.Cond):ai)) (D M) q_r1 ⟨(D M),aQ⟩)<|bu M<|cy h fun t q_t h=>bL M (gR kM gX M M)<|bL M (gQ hU M M)<|bL M (fun T=>wO Jo (D M)) ?_
   obtain⟨r2,h1t,h0t⟩:=og q_t
   have q_r2g:=fun V=>(h1t V).1
   refine bL M (fun T=>ce QR (Ks _ _ (q_r2g T)) ⟨(dp M T),(dp M T),aQ⟩)<|K (kD (D M) (fun V=>(dp M (xO V))) (fun V=>(h1t V).2) h0t)<|bu M<|cy h fun t1 q_t1 h=>bL M (gR nj nh M M)<|bL M (gQ vE M M)<|bL M (fL M) ?_
   obtain⟨r3,h1t1,h0t1⟩:=og q_t1
   have q_r3g:=fun V=>(h1t1 V).1
   refine bL M (fun T=>ce Sz (O4 _ _ (q_r3g T)) ⟨(dp M T),(dp M T),aQ⟩)<|K (kD (D M) (fun V=>(dp M (xO V))) (fun V=>(h1t1 V).2) h0t1)<|dq h M (fun h=>?_) (fun h=>?_)
   ·exact aV<|cR<|dG<|eX<|au<|eX<|so h▸bZ M M
   ·refine cg<|dQ I hN M ?_;exact bj (aN (ih (i+1) ⟨dC I,h⟩) (bv M))

end Go.Proofs.YtbmmihfagmchaaaGreat

