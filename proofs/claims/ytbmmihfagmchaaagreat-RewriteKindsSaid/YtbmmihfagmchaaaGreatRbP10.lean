/- cP of this claim: P10. -/
import Derived.Test.YtbmmihfagmchaaaGreatRbT
import Derived.Test.YtbmmihfagmchaaaGreatRbP9
set_option linter.all false
namespace Go.Proofs.YtbmmihfagmchaaaGreat
open Go
set_option maxRecDepth 100000

def Pc a1 b{R}(h:Af a1 b=some R):cI bk 21 [H ah a1,H ah b] (gM R):=by
 refine eC Tryz.func21 M<|aV<|dn M<|dn M<|cR<|cb<|bm<|ca dk cE iY M<|c9 gp M<|ca dk cE iY M<|c9 gp M<|K (mn (D M) (D M))<|dq h M (fun h=>?_) (fun h=>?_)
 ·exact aV<|cR<|dG<|au<|so h▸bZ M M
 ·refine ko<|bm<|ca dk cE iY M<|c9 gp M<|K (cj hI)<|cb<|av<|bE (k:=14) M fun hN=>ci ?_;refine aN (kX (h3:=fun ls i=>(a1.Nodes.drop i=ls)/\rN b ls i=some R) (Of:=fun _ i=>[]) (Gf:=fun _ i=>[(2,bw ah a1),(3,bw ah b),(15,jq a1.Nodes),(16,cA (i:Int))]) (fun i h=>?_) (fun e tl ih i h=>?_) a1.Nodes 0 ⟨M,h⟩) (bv M)
  ·obtain⟨I,h⟩:=h
   exact eQ I M<|aB<|aV<|cR<|dG<|so h▸bZ M M
  ·obtain⟨I,h⟩:=h
   refine eP I M<|aJ<|av<|aY M<|aT M<|aJ<|cy h fun e1 q_e1 h=>?_
   refine im (ts:=[_,_,_,_,_,_,_,_,_,_,_]) mixed M M
    ⟨pN 2 M M (nG dk cE M M),
    ⟨jF 0 iY M M,
    ⟨jt M M,
    ⟨gr 20 1 21 2 M M M (LA gp eY M M M (fz I)),
    ⟨jF 3 eY M M,
    ⟨pN 3 M M (nG dk cE M M),
    ⟨jF 5 iY M M,
    ⟨jt M M,
    ⟨gr 25 6 26 7 M M M (LA gp eY M M M q_e1),
    ⟨jF 8 eY M M,
    ⟨gr 23 4 28 9 M M M (CQ R0 (D M) (D M)),
    aQ⟩⟩⟩⟩⟩⟩⟩⟩⟩⟩⟩ ?_
   refine aB<|o8 h M (fun h=>?_) (fun h=>?_)
   ·exact aV<|cR<|dG<|eX<|au<|eX<|so h▸bZ M M
   ·refine cg<|dQ I hN M ?_;exact bj (aN (ih (i+1) ⟨dC I,h⟩) (bv M))

def QC{R}(h:ur=some R):cI bk 6 [] (gM R):=by
 refine eC Tryz.func6 M<|aV<|cR<|cb<|aV<|eg h QW Kw trivial fun r h=>eg h Rh (KD _) (cm M) fun r1 h=>bu M<|bS M M<|bS M M<|aC cJ ec M fun b=>aO cJ ae M<|aD 1 M<|aT M<|aV<|cy h fun r2 q_r2 h=>?_;refine K (ce QW (Kw q_r2) trivial)<|eg h SK (Pf _) (cm M) fun r3 h=>bu M<|bS M M<|bS M M<|bS M M<|aC cJ ec M fun b1=>aO cJ ae M<|aD 3 M<|jm M<|aT M<|aJ<|cy h fun t q_t h=>?_
 obtain⟨e,h1t,h0t⟩:=og q_t
 have q_eg:=fun V=>(h1t V).1
 refine cy h fun t1 q_t1 h=>?_
 obtain⟨e1,h1t1,h0t1⟩:=og q_t1
 have q_e1g:=fun V=>(h1t1 V).1
 refine cy h fun t2 q_t2 h=>?_
 obtain⟨e2,h1t2,h0t2⟩:=og q_t2
 have q_e2g:=fun V=>(h1t2 V).1
 refine cy h fun t3 q_t3 h=>?_
 obtain⟨e3,h1t3,h0t3⟩:=og q_t3
 have q_e3g:=fun V=>(h1t3 V).1
 obtain⟨r4,h1t3⟩:=Qj (fun V=>(h1t3 V).2)
 have q_r4g:=fun V=>(h1t3 V).1
 obtain⟨r5,h1t3⟩:=Qj (fun V=>(h1t3 V).2)
 have q_r5g:=fun V=>(h1t3 V).1
 refine im (ts:=[_,_,_,_,_,_,_,_,_,_,_,_,_,_,_,_,_,_,_,_,_,_,_,_,_,_,_,_,_,_,_,_,_,_,_,_,_,_,_,_,_,_,_,_,_,_,_,_,_]) mixed M M
  ⟨jt M M,
  ⟨eH 17 0 M M (PA M),
  ⟨eH 18 1 M M (m0 M),
  ⟨tB 5 19 2 M M M (cu M M M M (fun T=>m0 M)),
  ⟨iE 20 3 19 2 M M M (cu M M M M (fun T=>jP (dp M T) hI)),
  ⟨gr 19 2 21 4 M M M (Px M M),
  ⟨eH 22 5 M M (m0 M),
  ⟨tB 4 23 6 M M M (cu M M M M (fun T=>m0 M)),
  ⟨gr 23 6 24 7 M M M (Px M M),
  ⟨eH 25 8 M M (m0 M),
  ⟨tB 1 26 9 M M M (cu M M M M (fun T=>nG fY d5 M M)),
  ⟨iE 27 10 26 9 M M M (cu M M M M (fun T=>ic na M M (dp M T))),
  ⟨iE 28 11 26 9 M M M (cu M M M M (fun T=>j3 jR (dp M T))),
  ⟨iE 29 12 26 9 M M M (cu M M M M (fun T=>jP (dp M T) hI)),
  ⟨gr 26 9 30 13 M M M (Px M M),
  ⟨eH 31 14 M M (m0 M),
  ⟨tB 1 32 15 M M M (cu M M M M (fun T=>nG fY d5 M M)),
  ⟨iE 33 16 32 15 M M M (cu M M M M (fun T=>ic na M M (dp M T))),
  ⟨iE 34 17 32 15 M M M (cu M M M M (fun T=>bn jR dR M (dp M T) hI (q_eg T))),
  ⟨iE 35 18 32 15 M M M (cu M M M M (fun T=>iN nk M fX M (dp M T))),
  ⟨iE 36 19 32 15 M M M (cu M M M M (fun T=>ic cn M M (dp M T))),
  ⟨iE 37 20 32 15 M M M (cu M M M M (fun T=>jP (dp M T) hI)),
  ⟨gr 32 15 38 21 M M M (fI (D M) (fun V=>(dp M V)) (fun V=>(h1t V).2) h0t),
  ⟨eH 39 22 M M (m0 M),
  ⟨tB 1 40 23 M M M (cu M M M M (fun T=>nG fY d5 M M)),
  ⟨iE 41 24 40 23 M M M (cu M M M M (fun T=>ic na M M (dp M T))),
  ⟨iE 42 25 40 23 M M M (cu M M M M (fun T=>bn jR dR M (dp M T) hI (q_e1g T))),
  ⟨iE 43 26 40 23 M M M (cu M M M M (fun T=>iN nk M fX M (dp M T))),
  ⟨iE 44 27 40 23 M M M (cu M M M M (fun T=>ic cn M M (dp M T))),
  ⟨iE 45 28 40 23 M M M (cu M M M M (fun T=>jP (dp M T) hI)),
  ⟨gr 40 23 46 29 M M M (fI (D M) (fun V=>(dp M V)) (fun V=>(h1t1 V).2) h0t1),
  ⟨eH 47 30 M M (m0 M),
  ⟨tB 1 48 31 M M M (cu M M M M (fun T=>nG fY d5 M M)),
  ⟨iE 49 32 48 31 M M M (cu M M M M (fun T=>ic na M M (dp M T))),
  ⟨iE 50 33 48 31 M M M (cu M M M M (fun T=>bn jR dR M (dp M T) hI (q_e2g T))),
  ⟨iE 51 34 48 31 M M M (cu M M M M (fun T=>iN nk M fX M (dp M T))),
  ⟨iE 52 35 48 31 M M M (cu M M M M (fun T=>ic cn M M (dp M T))),
  ⟨iE 53 36 48 31 M M M (cu M M M M (fun T=>jP (dp M T) hI)),
  ⟨gr 48 31 54 37 M M M (fI (D M) (fun V=>(dp M V)) (fun V=>(h1t2 V).2) h0t2),
  ⟨eH 55 38 M M (m0 M),
  ⟨tB 1 56 39 M M M (cu M M M M (fun T=>nG fY d5 M M)),
  ⟨iE 57 40 56 39 M M M (cu M M M M (fun T=>ic na M M (dp M T))),
  ⟨iE 58 41 56 39 M M M (cu M M M M (fun T=>bn jR dR M (dp M T) hI (q_e3g T))),
  ⟨iE 59 42 56 39 M M M (cu M M M M (fun T=>iN kN M fW M (dp M T))),
  ⟨iE 60 43 56 39 M M M (cu M M M M (fun T=>ic aX M M (dp M T))),
  ⟨zes 56 39 M M (cu M M M M (fun T=>ce Pr (Gr _ _ (q_r4g T)) ⟨hI,hI,aQ⟩)),
  ⟨BI 61 44 62 45 56 39 M M M M (cu M M M M (fun T=>ce SJ (Pc _ _ (q_r5g T)) ⟨(dp M T),(dp M T),aQ⟩)),
  ⟨gr 56 39 63 46 M M M (fI (D M) (fun V=>(dp M V)) (fun V=>(h1t3 V).2) h0t3),
  ⟨eH 64 47 M M (zy M),
  aQ⟩⟩⟩⟩⟩⟩⟩⟩⟩⟩⟩⟩⟩⟩⟩⟩⟩⟩⟩⟩⟩⟩⟩⟩⟩⟩⟩⟩⟩⟩⟩⟩⟩⟩⟩⟩⟩⟩⟩⟩⟩⟩⟩⟩⟩⟩⟩⟩⟩ ?_
 exact aB<|lz<|so h▸bZ M M

def Mt l most{R}(h:mG l most=some R):gk bk 23 [gP (ap) l,cA most] false ap 63 R:=by
 exact gk.of Tryz.func23 M M M fun w0 S0=>aV<|bC false ap 63<|K (bz sD)<|cb<|aV<|fh (r:=ap) (ys:=Cz) (xs:=[]) gp eY M M M M M trivial M fun l1 c=>bu M<|bu M<|c9 gp M<|bu M<|K (rf (D M) (D M))<|cy h fun y q_y h=>K (oR gp eY M (D M) (D M) q_y)<|cy h fun x q_x h=>dm eY M M M M gp M M (D M) (D M) q_x fun l2 c1=>bF M<|so h▸gn M M
def Ko e{R}(h:nv e=some R):cI bk 7 [H ah e] (H ah R):=by
 refine eC Tryz.func7 M<|aV<|dn M<|aC aX cF M fun b=>cb<|aV<|ca dk cE iY M<|q5 h SI (Mt _ _) (cm M) fun r h l c=>K (bP (y:=dO (⟨r⟩:ai) (aK l c r.length)) aX u9 oH (⟨_,_,_,_,_,M,ue,M,(Bx (D M)),M⟩))<|bC false ap 63<|aC (r:=dw) (x:=dO kp (aK none 0 (Cz.length))) aX oH M fun b1=>d6 (r' :=dw) aX M (iC M) M (D M) (D M)<|aS<|qe<|cb<|bm ?_;refine bI 0 dk M<|K (fq iY iw (.head _) M (D M))<|K (eU gp (.tail _ (.head _)) (D M))<|K (cj hI)<|cb<|av<|fR (.tail _ (.head _)) fun hN=>ci<|cX<|cX<|eT ?_;refine aN (jh (h3:=fun ls i out=>(r.drop i=ls)/\j4 ls i out=some R) (Of:=fun _ i out=>[bx ah 27 b kp,bx dw 27 b1 (dO out (aK l c out.Nodes.length)),fi ap 63 l c out.Nodes]) (Gf:=fun _ i out=>[(2,tV (ax b 0)),(3,tV (ax b1 0)),(12,jq r),(13,cA (i:Int))]) (fun i out h=>?_) (fun e1 tl ih i out h=>?_) r 0 ({(⟨r⟩:ai)with Nodes:=r}:ai) ⟨M,h⟩) (bv M)
 ·obtain⟨I,h⟩:=h
  refine eQ I M<|aB<|aV<|dl<|hD<|K (iI (q:=ah) (y:=out) aX M M M M (.tail _ (.tail _ (.head _))) (fun _ _ _ ho h=>oq (jO ho (.head _)) h) (D M))<|aS<|aO aX ae M<|aD 2 M<|dG ?_;exact aM<|aM<|so h▸gE M aX M M M
 ·obtain⟨I,h⟩:=h
  refine eP I M<|aJ<|av<|aY M<|aT M<|aV<|bI 0 dk M<|K (fq iY iw (.tail _ (.head _)) M (D M))<|bu M<|cy h fun e2 q_e2 h=>?_;refine K (bW gp eY (.tail _ (.tail _ (.head _))) (D M) (D M) q_e2)<|K (cD (o:=(i:Int).toNat*8+0) (n:=(i:Int).toNat*8+4) xW M (.tail _ (.tail _ (.head _))) q_e2 (D M) M)<|K (cD (o:=(i:Int).toNat*8+4) (n:=(i:Int).toNat*8+7) Gm M (.tail _ (.tail _ (.head _))) q_e2 (D M) M)<|aT M<|cy h fun y q_y h=>?_
  refine kh 11 (ts:=[tV (jf l ((i:Int).toNat*8+7)),tV (jf l ((i:Int).toNat*8+7)),tV (jf l ((i:Int).toNat*8+7)),H rS e2.Value.S,tV (jf l ((i:Int).toNat*8+7)),tV (jf l ((i:Int).toNat*8+7)),H rS e2.Value.S,jq e2.Value.S,cA (min (e2.Value.S.length:Int) (41:Int)),H rS y,tV (jf l ((i:Int).toNat*8+7))]) mixed M M M
   ⟨jt M M,
   ⟨jt M M,
   ⟨eH 23 1 M M (lE (.tail _ (.tail _ (.head _))) q_e2 (D M)),
   ⟨eH 24 2 M M (dd (r:=ap) (i:=(i:Int)) (foff:=7) PB M M (kW kH s8) M (.tail _ (.tail _ (.head _))) q_e2 (D M)),
   ⟨jt M M,
   ⟨eH 26 4 M M (lE (.tail _ (.tail _ (.head _))) q_e2 (D M)),
   ⟨eH 27 5 M M (dd (r:=ap) (i:=(i:Int)) (foff:=7) PB M M (kW kH s8) M (.tail _ (.tail _ (.head _))) q_e2 (D M)),
   ⟨eH 28 6 M M (Hd Dx (D M)),
   ⟨eH 29 7 M M (rf (D M) hI),
   ⟨gr 25 3 30 8 M M M (If Dx (D M) (D M) q_y),
   ⟨eH 22 0 M M (lE (.tail _ (.tail _ (.head _))) q_e2 (D M)),
   aQ⟩⟩⟩⟩⟩⟩⟩⟩⟩⟩⟩ ?_
  refine dl<|cy h fun st q_st h=>ke PB M (xD kH z6 zW) M q_e2 (so q_st) (D M) (D M)<|gm (dU (so q_st)) 17 M<|oy (O' :=[fi ap 63 l c st,bx ah 27 b kp,bx dw 27 b1 (dO out (aK l c st.length))]) (by first|(rw [dU (so q_st)];done)|(rw [dU (so q_st)];exact M)|exact M)<|bq<|dQ I hN M<|aH<|aH ?_;exact bj (aN (ih (i+1) ({out with Nodes:=st}:ai) ⟨dC I,h⟩) (bv M))

end Go.Proofs.YtbmmihfagmchaaaGreat

