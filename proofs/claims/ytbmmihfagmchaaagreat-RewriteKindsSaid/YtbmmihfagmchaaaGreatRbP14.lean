/- cP of this claim: P14. -/
import Derived.Test.YtbmmihfagmchaaaGreatRbT
import Derived.Test.YtbmmihfagmchaaaGreatRbP13
set_option linter.all false
namespace Go.Proofs.YtbmmihfagmchaaaGreat
open Go
set_option maxRecDepth 100000

def Mu l{R}(h:kE l=some R):gk bk 19 [H ay l] false cB 3 R:=by
 refine gk.of Tryz.func19 M M M fun w0 S0=>aV<|dn M<|bC false cB 3<|K (bz sD)<|cb<|bm<|bA cJ M<|eg h IJ (xY _) (cm M) fun r h=>bu M<|bS M M<|bS M M<|jm M<|aT M<|aY M ?_;refine jS M<|dq h M (fun h=>?_) (fun h=>?_)
 ·exact aV<|bC false cB 3<|K (bz sD)<|dG<|au<|so h▸gn M M
 ·refine ko<|aV<|bC false cB 3<|K (bz sD)<|cb<|bm<|ca fY d5 na M<|c9 jR M<|K (cj hI)<|cb<|av<|bE (k:=16) M fun hN=>ci<|cX<|oz ?_;refine aN (pK (h3:=fun ls i out l1 c=>(l.Nodes.drop i=ls)/\iJ ls out=some R) (Of:=fun _ i out l1 c=>[fi cB 3 l1 c out]) (Gf:=fun _ i out l1 c=>[(5,sO l1 c out),(16,gP (ak) l.Nodes),(17,jq l.Nodes),(18,cA (i:Int))]) (fun i out l1 c h=>?_) (fun e tl ih i out l1 c h=>?_) l.Nodes 0 xw none 0 ⟨M,h⟩) (bv M)
  ·obtain⟨I,h⟩:=h
   refine eQ I M<|aB<|aY M<|cy h fun srt q_srt h=>?_;refine Fb (n:=out.length) (ys:=srt) xf ?_ QQ ?_ ?_ ?_ ?_ ?_
   ·rfl
   ·exact q_srt
   ·exact(D M)
   ·rfl
   ·rfl
   intro hl
   refine xj hl 5 M<|xj hl 31 M<|cb<|aY M<|cy h fun r1 q_r1 h=>uC [fi cB 3 l1 c srt] _ M QP (NL l1 c _ q_r1) ⟨(D M),aQ⟩ M fun i1=>?_;refine(show RG _ _ _ _ [_] ((34,sO (i1.h 0).1 (i1.h 0).2 r1)::_)from ?_);exact bF M<|so h▸gn M M
  ·obtain⟨I,h⟩:=h
   refine eP I M<|aJ<|av<|aV<|iq jR dR M (fz I)<|aC dR io M fun b=>aO dR ae M<|aD 7 M<|cb<|aV<|oE nk fX M ?_;refine bA cn M<|dg M<|dq h M (fun h=>?_) (fun h=>?_)
   ·refine aG<|bu M<|ca AE ta cn M<|K (aR (r:=cB) (ys:=[e.Table]) (xs:=[.tmp 27]) fS cn M M M M M ⟨(D M),aQ⟩)<|cy h fun out1 q_out1 h=>dm cn M M M M fS M M (D M) (D M) q_out1 fun l3 c2=>jm M<|bq<|dQ I hN M ?_;exact bj (aN (ih (i+1) out1 l3 c2 ⟨dC I,h⟩) (bv M))
   ·refine cg<|dQ I hN M ?_;exact bj (aN (ih (i+1) out l1 c ⟨dC I,h⟩) (bv M))
def Kx l{R}(h:kE l=some R):cI bk 19 [H ay l] (lI R):=(Mu _ h).spec

def QE p{R}(h:nf p=some R):cI bk 5 [H ay p] (gM R):=by
 refine eC Tryz.func5 M<|aV<|dn M<|cR<|cb<|bm<|eg h cb6 QC trivial fun r h=>K (jn (D M))<|dq h M (fun h=>?_) (fun h=>?_)
 ·exact aV<|cR<|dG<|au<|so h▸bZ M M
 ·refine ko<|aV<|bA cJ M<|eg h SL (Pg _) (cm M) fun r1 h=>aC cJ ec M fun b=>aO cJ ae M<|aD 3 M<|cb<|aV<|bA cJ M<|eg h Ps (Gs _) (cm M) fun r2 h=>bu M<|bS M M<|bS M M<|jm M<|aT M ?_;refine aV<|bA cJ M<|eg h Rh (KD _) (cm M) fun r3 h=>bu M<|bS M M<|bS M M<|aC cJ ec M fun b1=>aO cJ ae M<|aD 6 M<|aT M<|bm<|bu M<|jS M<|dq h M (fun h=>?_) (fun h=>?_)
  ·exact aY M<|dg M<|bu M<|aW M (gR fY d5 M M)<|aW M (gQ na M M)<|aW M (pu jR M)<|aW M (nm M)<|hM M<|bF M<|au<|so h▸bZ M M
  ·refine ko<|aV<|bA cJ M<|eg h Ps (Gs _) (cm M) fun r4 h=>bu M<|bS M M<|bS M M<|jm M<|aT M<|bm<|bu M<|jS M<|bu M<|bL M (fL M)<|bL M (zD M)<|mI M<|bu M ?_;refine cy h fun t q_t h=>bL M (fL M)<|bL M (fL M) ?_
   obtain⟨r5,h1t,h0t⟩:=og q_t
   have q_r5g:=fun V=>(h1t V).1
   refine bL M (fun T=>ce QZ (Kz _ _ (q_r5g T)) ⟨(dp M T),(dp M T),aQ⟩)<|bL M (yx M)<|K (kD (D M) (fun V=>(dp M (xO V))) (fun V=>(h1t V).2) h0t)<|bu M<|cy h fun t1 q_t1 h=>bL M (fun T=>oI cJ M M) ?_
   obtain⟨r6,h1t1,h0t1⟩:=og q_t1
   have q_r6g:=fun V=>(h1t1 V).1
   refine bL M (fun T=>ce QY (Ky _ (q_r6g T)) ⟨(dp M T),aQ⟩)<|bL M (yy M) ?_
   obtain⟨t2,h1t1⟩:=Qj (fun V=>(h1t1 V).2)
   have q_t2g:=fun V=>(h1t1 V).1
   refine jB M M M M (fun T=>oI cJ M M) ?_
   obtain⟨r7,h1t2,h0t2⟩:=og3 q_t2g
   have q_r7g:=fun V=>(h1t2 V).1
   refine jB M M M M (fun T=>ce QY (Ky _ (q_r7g T)) ⟨(dp M T),aQ⟩)<|jB M M M M (fun T=>jn (dp M T))<|bL M (fun T=>fI (dp M T) (fun V=>(dp M (Dh T V))) (fun V=>(h1t2 (Dh T V)).2) (fun V=>h0t2 T V))<|K (kD (D M) (fun V=>(dp M (xO V))) (fun V=>(h1t1 V).2) h0t1)<|dq h M (fun h=>?_) (fun h=>?_)
   ·exact aV<|cR<|dG<|au<|so h▸bZ M M
   ·refine ko<|aJ<|cy h fun r8 q_r8 h=>cy h fun r9 q_r9 h=>cy h fun r10 q_r10 h=>?_
    refine im (ts:=[_,_,_,_,_,_]) mixed M M
     ⟨pN 3 M M (oI cJ M M),
     ⟨eH 60 0 M M (ce QX (Kx _ q_r8) ⟨(D M),aQ⟩),
     ⟨pN 6 M M (oI cJ M M),
     ⟨eH 62 2 M M (ce QX (Kx _ q_r9) ⟨(D M),aQ⟩),
     ⟨gr 61 1 63 3 M M M (ce QZ (Kz _ _ q_r10) ⟨(D M),(D M),aQ⟩),
     ⟨eH 64 4 M M (zy M),
     aQ⟩⟩⟩⟩⟩⟩ ?_
    exact aB<|lz<|so h▸bZ M M

end Go.Proofs.YtbmmihfagmchaaaGreat

