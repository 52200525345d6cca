/- cP of this claim: P9. -/
import Derived.Test.YtbmmihfagmchaaaGreatRbT
import Derived.Test.YtbmmihfagmchaaaGreatRbP8
set_option linter.all false
namespace Go.Proofs.YtbmmihfagmchaaaGreat
open Go
set_option maxRecDepth 100000

def OX l place{R}(h:lU l place=some R):cI bk 64 [H ay l,cA place] (tT [H ay R.1,cA R.2]):=by
 refine eC Tryz.func64 M<|aV<|dn M<|aC cJ ec M fun b=>da<|cb<|aV<|bA cJ M<|eg h Pp (Gq _) (cm M) fun r h=>bu M<|bS M M<|bS M M<|bS M M<|jm M<|jm M<|aT M<|aJ<|av ?_;refine aY M<|K (jn (D M))<|aT M<|o8 h M (fun h=>?_) (fun h=>?_)
 ·exact aV<|K (bP cJ CW ec M)<|aO cJ ae M<|fK<|eX<|aI 4 M<|so h▸bH M M ⟨bg cJ M M M,aP M,aQ⟩
 ·refine aY M<|K (mE (D M) hI)<|bu M<|bL M (fL M)<|bL M (gR fY d5 M M)<|bL M (gQ na M M)<|bL M (pu jR M)<|bL M (fun T=>gz (dp M T) (dp M T))<|mI M<|aT M<|o8 h M (fun h=>?_) (fun h=>?_)
  ·exact aV<|K (bP cJ CW ec M)<|aO cJ ae M<|fK<|eX<|aI 4 M<|so h▸bH M M ⟨bg cJ M M M,aP M,aQ⟩
  ·refine cg<|bh<|aB<|aV<|bC true ak 55<|aC (r:=dA) (x:=dZ Ba N6) cJ sS M fun b1=>cb<|bm<|bu M<|K (CP (D M))<|ca ro w7 eM M<|bu M<|cy h fun e q_e h=>iq fS cn M q_e<|aT M<|av ?_;refine ci<|cX<|cX<|eT ?_;refine aN (HM (h3:=fun n i out l1 c=>lg l place e n i out=some R) (Of:=fun i out l1 c=>[bx ay 39 b Ba,bx dA 39 b1 (dZ out (aK l1 c out.Nodes.length)),gT ak 55 l1 c out.Nodes]) (Gf:=fun i out l1 c=>[(1,cA place),(2,bw ay l),(4,tV (ax b 0)),(6,bw aZ r.1),(9,tV (ax b1 0)),(10,cA i)]) (fun i out l1 c h=>nn h) (fun n ih i out l1 c h=>?_) fQ e ({Ba with Nodes:=Lq}:aw) none 0 h) (bv M);refine kf<|bm<|bu M<|bu M<|K (oS (D M) (D M))<|dq h M (fun h=>?_) (fun h=>?_)
   ·refine ko<|aJ<|av<|cy h fun e1 q_e1 h=>cy h fun r1 q_r1 h=>?_
    refine kh 17 (ts:=[tV (ax b1 0),tO ak l1 c out.Nodes,bw Bl l.Nodes,gP (ak) l.Nodes,cA i,bw ak e1,H ak e1,bw aZ r.1,bw aZ r.1,bw pm r.1.first,lI r.1.first,cA place,bw cB e,cA e,cA (IntKind.i64.wrap (0-e)),H ak r1,gP (ak) ([r1])]) mixed M M M
     ⟨pN 9 M M (rJ 0 fY M M M),
     ⟨eH 44 0 M M (gW na jz (.tail _ (.head _)) (.tail _ (.tail _ (.head _))) M (D M)),
     ⟨pN 2 M M (nG fY d5 M M),
     ⟨jF 2 na M M,
     ⟨jt M M,
     ⟨gr 47 3 48 4 M M M (LA jR dR M M M q_e1),
     ⟨jF 5 dR M M,
     ⟨jt M M,
     ⟨eH 51 7 M M (CP (D M)),
     ⟨eH 52 8 M M (nG ro w7 M M),
     ⟨jF 9 eM M M,
     ⟨jt M M,
     ⟨gr 54 10 55 11 M M M (LA fS cn M M M q_e),
     ⟨jF 12 cn M M,
     ⟨eH 57 13 M M (F7 (D M)),
     ⟨gr 50 6 58 14 M M M (ce Pn (Gp _ _ q_r1) ⟨(D M),(D M),aQ⟩),
     ⟨eH 59 15 M M (aR (r:=ak) (ys:=[r1]) (xs:=[.tmp 59]) jR dR M M M M M ⟨(D M),aQ⟩),
     aQ⟩⟩⟩⟩⟩⟩⟩⟩⟩⟩⟩⟩⟩⟩⟩⟩⟩ ?_
    refine dl<|cy h fun l2 q_l2 h=>jg dR M M M M jR M M (D M) (D M) q_l2 fun l3 c1=>bI 0 fY M<|dl<|d6 na M (lL _ _ _) M (D M) (Bx (wy (D M)))<|bq<|bh<|aB<|aG<|bu M<|K (lr (D M) hI)<|jm M<|bq<|bp<|bp<|aH ?_;exact bj (aN (ih (IntKind.i64.wrap (i+(1:Int))) ({out with Nodes:=l2}:aw) l3 c1 h) (bv M))
   ·exact il<|aL<|aL<|dM<|aB<|aV<|dl<|K (iI (q:=ay) (y:=out) cJ M M M M (.tail _ (.tail _ (.head _))) (fun _ _ _ ho h=>m7 (jO ho (.head _)) h) (D M))<|aS<|aO cJ ae M<|fK<|aI 4 M<|aM<|aM<|so h▸bH M M ⟨bg cJ M M M,aP M,aQ⟩

def Mm: ∀(fu:Nat) (l:aw) {R:am} (h:gJ fu l=some R),cI bk 39 [H ay l] (H an R):=by
 intro fu
 induction fu with
 |zero=>intro l R h;exact(nn h).elim
 |succ fu ihR=>
  intro l R h
  refine eC Tryz.func39 M<|aV<|dn M<|aC br eG M fun b=>cb<|aJ<|Lg true an 87<|cy h fun e q_e h=>?_
  refine jC 11 [tc (H ay l),tc (bw Bl l.Nodes),tc (gP (ak) l.Nodes),tc (bw Bl l.Nodes),tc (gP (ak) l.Nodes),tc (jq l.Nodes),tc (cA (IntKind.i64.wrap ((l.Nodes.length:Int)-(1:Int)))),tc (bw ak e),tc (H ak e),tc (H jT (oU (⟨l,e,[]⟩:am) (aK none 0 (Fu.length)))),([10],fun s=>tV (ax ((s.getD 0 qg).h 0).2 0))] [false,false,false,false,false,false,false,false,false,false,true] [fun _=>[gT an 87 none 0 Fu,bx an 87 b oC],fun sg=>[bx an 87 ((sg 10).h 0).2 oC,gT an 87 none 0 Fu,bx an 87 b oC]] M mixed M M M M M
   ⟨⟨[⟨1,fun _=>bw ay l,none⟩],_,0,1,M,⟨(fun _=>M),aQ⟩,M,M,M,M,M,fun _ sg _ _=>ac M (oI cJ M M)⟩,
   ⟨⟨[⟨1,fun _=>bw ay l,none⟩],_,0,1,M,⟨(fun _=>M),aQ⟩,M,M,M,M,M,fun _ sg _ _=>ac M (nG fY d5 M M)⟩,
   ⟨⟨[⟨9,fun _=>bw Bl l.Nodes,some 1⟩],_,0,1,M,⟨(fun _=>M),aQ⟩,M,M,M,M,M,fun _ sg _ _=>ac M (oI na M M)⟩,
   ⟨⟨[⟨1,fun _=>bw ay l,none⟩],_,0,1,M,⟨(fun _=>M),aQ⟩,M,M,M,M,M,fun _ sg _ _=>ac M (nG fY d5 M M)⟩,
   ⟨⟨[⟨11,fun _=>bw Bl l.Nodes,some 3⟩],_,0,1,M,⟨(fun _=>M),aQ⟩,M,M,M,M,M,fun _ sg _ _=>ac M (oI na M M)⟩,
   ⟨⟨[⟨12,fun _=>H Bl l.Nodes,some 4⟩],_,0,1,M,⟨(fun _=>M),aQ⟩,M,M,M,M,M,fun _ sg _ _=>ac M (PJ jR M)⟩,
   ⟨⟨[⟨13,fun _=>H cB (l.Nodes.length:Int),some 5⟩],_,0,1,M,⟨(fun _=>M),aQ⟩,M,M,M,M,M,fun _ sg _ _=>ac M (fN (D M) hI)⟩,
   ⟨⟨[⟨10,fun _=>H Bl l.Nodes,some 2⟩,⟨14,fun _=>H cB (IntKind.i64.wrap ((l.Nodes.length:Int)-(1:Int))),some 6⟩],_,0,1,M,⟨(fun _=>M),(fun _=>M),aQ⟩,M,M,M,M,M,fun _ sg _ _=>ac M (LA jR dR M M M q_e)⟩,
   ⟨⟨[⟨15,fun _=>bw ak e,some 7⟩],_,0,1,M,⟨(fun _=>M),aQ⟩,M,M,M,M,M,fun _ sg _ _=>ac M (oI dR M M)⟩,
   ⟨⟨[⟨8,fun _=>H ay l,some 0⟩,⟨16,fun _=>H ak e,some 8⟩],_,0,1,M,⟨(fun _=>M),(fun _=>M),aQ⟩,M,M,M,M,M,fun _ sg _ _=>ac M (bP (y:=oU (⟨l,e,[]⟩:am) (aK none 0 (Fu.length))) br OK HR (⟨_,_,_,_,_,M,DV,M,(D M),⟨_,_,_,_,_,M,DU,M,(D M),M⟩⟩))⟩,
   ⟨⟨[],_,M,aQ,M,M,M,fun sg=>cx M (lk br eG)⟩,
   aQ⟩⟩⟩⟩⟩⟩⟩⟩⟩⟩⟩ (fun sg=>?_)
  refine(show RG _ _ _ _ [_,_,_] _ from ?_);refine aS<|aS<|d6 (r' :=jT) br M (iC M) M (D M) (D M)<|cb<|bm<|bI 1 iy M<|bI 2 j6 M<|K (bf cn M M (kW yN fe) (.head _) (D M))<|bI 1 iy M<|bI 3 pT M<|K (bf cn M M (kW yN kG) (.head _) (D M))<|K (uP (r:=cB) (ys:=[((⟨l,e,[]⟩:am).root).A,((⟨l,e,[]⟩:am).root).B]) (xs:=[.tmp 20,.tmp 23]) zp cn M wx M M ⟨(D M),(D M),aQ⟩)<|K (cj hI)<|cb<|av<|ci<|cX<|cX<|eT ?_;refine aN (HI (h3:=fun k i t l1 c=>(2-i=k)/\dj (gJ fu) l e k i t=some R) (Of:=fun _ i t l1 c=>[bx an 87 b oC,bx jT 87 ((sg 10).h 0).2 (oU t (aK l1 c t.parts.length)),gT an 87 l1 c t.parts]) (Gf:=fun _ i t l1 c=>[(1,bw ay l),(2,tV (ax b 0)),(3,tV (ax ((sg 10).h 0).2 0)),(24,H Cy ([((⟨l,e,[]⟩:am).root).A,((⟨l,e,[]⟩:am).root).B])),(25,cA (i:Int))]) (fun i t l1 c h=>?_) (fun k1 ih i t l1 c h=>?_) 2 0 ({(⟨l,e,[]⟩:am)with parts:=Fu}:am) none 0 ⟨M,h⟩) (bv M)
  ·obtain⟨I,h⟩:=h
   refine kf<|aV<|K (mE (D M) hI)<|cb<|aJ<|xn (D M) (Qm I)<|il<|aL<|aL<|dM<|aB<|aV<|dl<|K (iI (q:=an) (y:=t) br M M M M (.tail _ (.tail _ (.head _))) (fun _ _ _ ho h=>AR (jO ho (.head _)) h) (D M))<|aS<|aO br ae M<|aD 2 M<|dG<|aM ?_;exact aM<|so h▸gE M br M M M
  ·obtain⟨I,h⟩:=h
   refine kf<|aV<|K (mE (D M) hI)<|cb<|aJ<|xm (D M) (Ql I)<|ko<|aJ<|av<|aV<|cy h fun e2 q_e2 h=>K (Ii zp cn M M (D M) (D M) q_e2)<|aT M<|aY M<|K (gz (D M) hI)<|bq ?_;refine aB<|o8 h M (fun h=>?_) (fun h=>?_)
   ·refine aV<|bA cJ M<|bu M<|eg h Sr (OX _ _) (cm M) fun r h=>bu M<|bS M M<|bS M M<|aC cJ ec M fun b1=>aO cJ ae M<|aD 6 M<|aT M<|cy h fun r1 q_r1 h=>?_
    refine kh 5 (ts:=[tV (ax ((sg 10).h 0).2 13),tO an l1 c t.parts,H ay r.1,H an r1,gP (an) ([r1])]) mixed M M M
     ⟨pN 3 M M (rJ 13 lu M M M),
     ⟨eH 36 0 M M (gW tE EO (.tail _ (.head _)) (.tail _ (.tail _ (.head _))) M (D M)),
     ⟨pN 6 M M (oI cJ M M),
     ⟨eH 38 2 M M (ce Pq (ihR _ q_r1) ⟨(D M),aQ⟩),
     ⟨eH 39 3 M M (aR (r:=an) (ys:=[r1]) (xs:=[.tmp 39]) m8 br M M M M M ⟨(D M),aQ⟩),
     aQ⟩⟩⟩⟩⟩ ?_
    refine dl<|cy h fun l2 q_l2 h=>jg br M M M M m8 M M (D M) (D M) q_l2 fun l3 c1=>bI 13 lu M<|dl<|d6 tE M (u5 _ _ _) M (D M) (Bx (wy (D M)))<|bq<|bh<|aB<|aG<|K (wP (LW I (by decide)) (D M) hI)<|bu M<|bq<|bp<|bp<|aH ?_;exact bj (aN (ih (i+1) ({t with parts:=l2}:am) l3 c1 ⟨LV I,h⟩) (bv M))
   ·refine cg<|bh<|aB<|aG<|K (wP (LW I (by decide)) (D M) hI)<|bu M<|bq ?_;exact bj (aN (ih (i+1) t l1 c ⟨LV I,h⟩) (bv M))
def Ku l{R}(h:pc l=some R):cI bk 39 [H ay l] (H an R):=Mm fQ l h

def KD l{R}(h:gK l=some R):cI bk 13 [H ay l] (tT [H ay R.1,cA R.2]):=by
 refine eC Tryz.func13 M<|aV<|dn M<|aC cJ ec M fun b=>da<|cb<|bm<|bA cJ M<|eg h IJ (xY _) (cm M) fun r h=>bu M<|bS M M<|bS M M<|jm M<|aT M<|aY M ?_;refine jS M<|dq h M (fun h=>?_) (fun h=>?_)
 ·exact aV<|K (bP cJ CW ec M)<|bu M<|aO cJ ae M<|bF M<|au<|aI 2 M<|so h▸bH M M ⟨bg cJ M M M,aP M,aQ⟩
 ·refine ko<|aV<|aC (r:=rV) (x:= .nilFunc) LD (fun _=>⟨M,M⟩) M fun b1=>cb<|aV<|K (JL (D M))<|tm (gD (r' :=rV) (x' :=ud 36 b1) (q:=rV) (y:=ud 36 b1) LD M (iC M) M (D M) (hSV (D M))) fun _=>GM 6 M<|cb<|aJ<|cy h fun r1 q_r1 h=>cy h fun r2 q_r2 h=>?_
  refine jC 9 [tc (tV (ud 36 b1)),tc (H ay l),tc (H an r1),tc (tT [H an r2.1,gM r2.2]),tc (tT [H an r2.1,gM r2.2]),tc (H an r2.1),tc (gM r2.2),([7],fun s=>tV (ax ((s.getD 0 qg).h 0).2 0)),tc (vF)] [false,false,false,false,false,false,false,true,true] [fun _=>[bx ay 39 b Ba],fun sg=>[bx an 87 ((sg 7).h 0).2 oC,bx ay 39 b Ba],fun sg=>[bx an 87 ((sg 7).h 0).2 r2.1,bx ay 39 b Ba]] M mixed M M M M M
   ⟨⟨[⟨6,fun _=>y0 36 b1,none⟩],_,0,1,M,⟨(fun _=>M),aQ⟩,M,M,M,M,M,fun _ sg _ _=>ac M (Eg LD (D M))⟩,
   ⟨⟨[⟨1,fun _=>bw ay l,none⟩],_,0,1,M,⟨(fun _=>M),aQ⟩,M,M,M,M,M,fun _ sg _ _=>ac M (oI cJ M M)⟩,
   ⟨⟨[⟨21,fun _=>H ay l,some 1⟩],_,0,1,M,⟨(fun _=>M),aQ⟩,M,M,M,M,M,fun _ sg _ _=>ac M (ce Pq (Ku _ q_r1) ⟨(D M),aQ⟩)⟩,
   ⟨⟨[⟨20,fun _=>tV (ud 36 b1),some 0⟩,⟨22,fun _=>H an r1,some 2⟩,⟨6,fun _=>y0 36 b1,none⟩],_,0,1,M,⟨(fun _=>M),(fun _=>M),(fun _=>M),aQ⟩,M,M,M,M,M,fun _ sg _ _=>ac M (Eh (ts:=[H an r1]) (D M) (cp:= .tmp 6) (D M) QU (O9 _ _ q_r2) ⟨(D M),aQ⟩)⟩,
   ⟨⟨[⟨23,fun _=>tT [H an r2.1,H rB r2.2],some 3⟩],_,0,1,M,⟨(fun _=>M),aQ⟩,M,M,M,M,M,fun _ sg _ _=>ac M (m0 M)⟩,
   ⟨⟨[⟨19,fun _=>tT [H an r2.1,H rB r2.2],some 4⟩],_,0,1,M,⟨(fun _=>M),aQ⟩,M,M,M,M,M,fun _ sg _ _=>ac M (Bb M M)⟩,
   ⟨⟨[⟨19,fun _=>tT [H an r2.1,H rB r2.2],some 4⟩],_,0,2,M,⟨(fun _=>M),aQ⟩,M,M,M,M,M,fun _ sg _ _=>ac M (Bb M M)⟩,
   ⟨⟨[],_,M,aQ,M,M,M,fun sg=>cx M (lk br eG)⟩,
   ⟨⟨[⟨7,fun sg=>tV (ax ((sg 7).h 0).2 0),some 7⟩,⟨24,fun _=>H an r2.1,some 5⟩],_,M,⟨(fun _=>M),(fun _=>M),aQ⟩,M,M,M,fun sg=>cx M (gD br M (pQ ae) M (D M) (D M))⟩,
   aQ⟩⟩⟩⟩⟩⟩⟩⟩⟩ (fun sg=>?_)
  refine(show RG _ _ _ _ [_,_] _ from ?_);refine aD 7 M<|aT M<|bm<|bu M<|K (jn (D M))<|dq h M (fun h=>?_) (fun h=>?_)
  ·exact aV<|bA cJ M<|aO cJ ae M<|fK<|au<|aI 2 M<|so h▸bH M M ⟨bg cJ M M M,aP M,aQ⟩
  ·exact ko<|aV<|ca xV ql cJ M<|aO cJ ae M<|fK<|aI 2 M<|so h▸bH M M ⟨bg cJ M M M,aP M,aQ⟩

def Pf l{R}(h:yC l=some R):cI bk 14 [H ay l] (tT [H ay R.1,gM R.2.1,cA R.2.2]):=by
 refine eC Tryz.func14 M<|aV<|dn M<|aC cJ ec M fun b=>cR<|da<|cb<|bm<|bA cJ M<|eg h IJ (xY _) (cm M) fun r h=>bu M<|bS M M<|bS M M<|jm M<|aT M<|aV ?_;refine bu M<|jS M<|dq h M (fun h=>?_) (fun h=>?_)
 ·exact aV<|K (bP cJ CW ec M)<|bu M<|aO cJ ae M<|cR<|bF M<|au<|aI 2 M<|so h▸bH M M ⟨bg cJ M M M,aP M,aP M,aQ⟩
 ·refine ko<|aV<|bA cJ M<|eg h Pq (Ku _) (cm M) fun r1 h=>eg h QS (O7 _ _) (cm M) fun r2 h=>bu M<|bS M M<|bS M M<|aC br eG M fun b1=>aO br ae M<|aD 7 M<|aT M<|bm<|bu M<|jS M<|bq ?_;refine aB<|o8 h M (fun h=>?_) (fun h=>?_)
  ·exact aV<|bA cJ M<|aO cJ ae M<|cR<|fK<|au<|aI 2 M<|so h▸bH M M ⟨bg cJ M M M,aP M,aP M,aQ⟩
  ·exact ko<|aV<|ca xV ql cJ M<|aO cJ ae M<|cR<|fK<|aI 2 M<|so h▸bH M M ⟨bg cJ M M M,aP M,aP M,aQ⟩

def wg root l{R}(h:lR root l=some R):cI bk 52 [H ap root,gP (ah) l] (H ah R):=by
 refine eC Tryz.func52 M<|aV<|rz (D M) M fun b=>aC aX cF M fun b1=>cb<|aV<|bC true ap 63<|aC (r:=dw) (x:=dO kp (aK none 0 (Cz.length))) aX oH M fun b2=>cb<|aV<|bI 1 oc M<|d7<|cW cn M oN M (D M) hI<|bI 2 oa M<|cW cn M oM M (D M) hI<|cb<|aJ<|aJ ?_;refine aG<|bu M<|c9 lJ M<|K (cj hI)<|cb<|av<|bE (k:=13) M fun hN=>ci<|eT<|eT<|kg<|kg ?_;refine aN (mX (h3:=fun ls i gI out l1 c=>(l.drop i=ls)/\k6 ls i gI out=some R) (Of:=fun _ i gI out l1 c=>[bx ap 63 b gI,bx ah 27 b1 kp,bx dw 27 b2 (dO out (aK l1 c out.Nodes.length)),gT ap 63 l1 c out.Nodes]) (Gf:=fun _ i gI out l1 c=>[(2,tV (ax b 0)),(4,tV (ax b1 0)),(5,tV (ax b2 0)),(13,gP (ah) l),(14,jq l),(15,cA (i:Int))]) (fun i gI out l1 c h=>?_) (fun e tl ih i gI out l1 c h=>?_) l 0 (aj.mk root.Tag pr pr root.Col root.Value) ({kp with Nodes:=Cz}:ai) none 0 ⟨M,h⟩) (bv M)
 ·obtain⟨I,h⟩:=h
  refine eQ I M<|aB<|aV<|bI 0 dk M<|K (gW iY iw (.tail _ (.tail _ (.head _))) (.tail _ (.tail _ (.tail _ (.head _)))) M (D M))<|K (bf eY M M bN (.head _) (D M))<|K (aR (r:=ap) (ys:=[gI]) (xs:=[.tmp 68]) gp eY M M M M M ⟨(D M),aQ⟩)<|d7<|cy h fun l2 q_l2 h=>jg eY M M M M gp M M (D M) (D M) q_l2 fun l3 c1=>bI 0 dk M<|d7 ?_;exact d6 iY M (pV _ _ _) M (D M) (Bx (wy (D M)))<|cb<|aV<|aS<|K (iI (q:=ah) (y:=({out with Nodes:=l2}:ai)) aX M M M M (.tail _ (.head _)) (fun _ _ _ ho h=>oq (jO ho (.head _)) h) (D M))<|d7<|aO aX ae M<|aD 4 M<|dG<|aM<|aM<|aM<|so h▸gE M aX M M M
 ·obtain⟨I,h⟩:=h
  refine eP I M<|aJ<|av<|aY M<|iq lJ aX M (fz I)<|aC aX cF M fun b3=>jm M<|aO aX ae M<|aD 7 M<|cb<|aJ ?_;refine aG<|bI 0 dk M<|K (gW iY iw (.tail _ (.tail _ (.head _))) (.tail _ (.tail _ (.tail _ (.head _)))) M (D M))<|K (j3 gp (mD (D M)))<|aT M<|bm<|ca dk cE iY M<|c9 gp M<|K (cj hI)<|cb<|av<|bE (k:=24) M fun hN1=>ci ?_;refine aN (pK (h3:=fun ls1 i1 out1 l4 c2=>(e.Nodes.drop i1=ls1)/\k5 (k6 tl) i gI out ls1 out1=some R) (Of:=fun _ i1 out1 l4 c2=>[bx ap 63 b gI,bx ah 27 b1 kp,bx dw 27 b2 (dO out1 (aK l4 c2 out1.Nodes.length)),gT ap 63 l4 c2 out1.Nodes]) (Gf:=fun _ i1 out1 l4 c2=>[(2,tV (ax b 0)),(4,tV (ax b1 0)),(5,tV (ax b2 0)),(6,cA (i:Int)),(8,jq out.Nodes),(13,gP (ah) l),(14,jq l),(15,cA (i:Int)),(24,gP (ap) e.Nodes),(25,jq e.Nodes),(26,cA (i1:Int))]) (fun i1 out1 l4 c2 h=>?_) (fun e1 tl1 ih1 i1 out1 l4 c2 h=>?_) e.Nodes 0 out l1 c ⟨M,h⟩) (bv M)
  ·obtain⟨hx1,h⟩:=h
   refine eQ hx1 M<|aB<|aY M<|dg M<|dq h M (fun h=>?_) (fun h=>?_)
   ·refine aG<|bI 0 dk M<|K (gW iY iw (.tail _ (.tail _ (.head _))) (.tail _ (.tail _ (.tail _ (.head _)))) M (D M))<|K (j3 gp (mD (D M)))<|K (fN (D M) hI)<|bI 1 oc M<|aO cn oN M<|bq<|dQ I hN M ?_;exact bj (aN (ih (i+1) (aj.mk gI.Tag (IntKind.i64.wrap ((out1.Nodes.length:Int)-(1:Int))) gI.R gI.Col gI.Value) out1 l4 c2 ⟨dC I,h⟩) (bv M))
   ·refine aG<|bI 0 dk M<|K (gW iY iw (.tail _ (.tail _ (.head _))) (.tail _ (.tail _ (.tail _ (.head _)))) M (D M))<|K (j3 gp (mD (D M)))<|K (fN (D M) hI)<|bI 2 oa M<|aO cn oM M<|bq<|dQ I hN M ?_;exact bj (aN (ih (i+1) (aj.mk gI.Tag gI.L (IntKind.i64.wrap ((out1.Nodes.length:Int)-(1:Int))) gI.Col gI.Value) out1 l4 c2 ⟨dC I,h⟩) (bv M))
  ·obtain⟨hx1,h⟩:=h
   refine eP hx1 M<|aJ<|av<|aV<|iq gp eY M (fz hx1)<|aC eY ip M fun b4=>aO eY ae M<|cb ?_;refine iZ (h3:=fun n=>rP out (k5 (k6 tl) i gI out tl1) out1 n=some R) (Of:=fun n=>[bx ap 63 b gI,bx ah 27 b1 kp,bx ap 63 b4 n,bx dw 27 b2 (dO out1 (aK l4 c2 out1.Nodes.length)),gT ap 63 l4 c2 out1.Nodes]) (Gf:=fun n=>[(2,tV (ax b 0)),(4,tV (ax b1 0)),(5,tV (ax b2 0)),(6,cA (i:Int)),(8,jq out.Nodes),(10,tV (ax b4 0)),(13,gP (ah) l),(14,jq l),(15,cA (i:Int)),(24,gP (ap) e.Nodes),(25,jq e.Nodes),(26,cA (i1:Int))]) (fun n h=>?_) (fun af=>?_)
   ·skip
    refine iZ (h3:=fun n1=>rO (k5 (k6 tl) i gI out tl1) out1 n1=some R) (Of:=fun n1=>[bx ap 63 b gI,bx ah 27 b1 kp,bx ap 63 b4 n1,bx dw 27 b2 (dO out1 (aK l4 c2 out1.Nodes.length)),gT ap 63 l4 c2 out1.Nodes]) (Gf:=fun n1=>[(2,tV (ax b 0)),(4,tV (ax b1 0)),(5,tV (ax b2 0)),(6,cA (i:Int)),(8,jq out.Nodes),(10,tV (ax b4 0)),(13,gP (ah) l),(14,jq l),(15,cA (i:Int)),(24,gP (ap) e.Nodes),(25,jq e.Nodes),(26,cA (i1:Int))]) (fun n1 h=>?_) (fun K1=>?_)
    ·skip
     refine aG<|bI 0 dk M<|K (gW iY iw (.tail _ (.tail _ (.tail _ (.head _)))) (.tail _ (.tail _ (.tail _ (.tail _ (.head _))))) M (D M))<|K (bf eY M M bN (.tail _ (.tail _ (.head _))) (D M))<|K (aR (r:=ap) (ys:=[n1]) (xs:=[.tmp 48]) gp eY M M M M M ⟨(D M),aQ⟩)<|mz<|cy h fun l5 q_l5 h=>jg eY M M M M gp M M (D M) (D M) q_l5 fun l6 c3=>bI 0 dk M<|mz<|d6 iY M (pV _ _ _) M (D M) (Bx (wy (D M)))<|bq<|dQ hx1 hN1 M<|cz<|aM<|bp<|bp<|cr<|cr ?_;exact bj (aN (ih1 (i1+1) ({out1 with Nodes:=l5}:ai) l6 c3 ⟨dC hx1,h⟩) (bv M))
    ·skip
     refine aV<|bI 2 oa M<|K (bf cn M M kI (.tail _ (.tail _ (.head _))) (D M))<|K (gz (D M) hI)<|dq h M (fun h=>?_) (fun h=>?_)
     ·refine aG<|bI 2 oa M<|K (bf cn M M kI (.tail _ (.tail _ (.head _))) (D M))<|bu M<|K (lr (D M) (D M))<|bI 2 oa M<|dl<|aO cn oM M<|bq<|cz<|cz<|aH<|cz<|cz ?_;exact cT (K1 (aj.mk n.Tag n.L (IntKind.i64.wrap (n.R+(out.Nodes.length:Int))) n.Col n.Value) h) (bv M)
     ·refine cg ?_;exact cT (K1 n h) (bv M)
   ·skip
    refine aV<|bI 1 oc M<|K (bf cn M M kK (.head _) (D M))<|K (gz (D M) hI)<|dq h M (fun h=>?_) (fun h=>?_)
    ·refine aG<|bI 1 oc M<|K (bf cn M M kK (.head _) (D M))<|bu M<|K (lr (D M) (D M))<|bI 1 oc M<|aO cn oN M<|bq<|cz<|cz<|aH<|cz<|cz ?_;exact cT (af (aj.mk e1.Tag (IntKind.i64.wrap (e1.L+(out.Nodes.length:Int))) e1.R e1.Col e1.Value) h) (bv M)
    ·refine cg<|cz<|cz<|aH<|cz<|cz ?_;exact cT (af e1 h) (bv M)

def O3 n{R}(h:BR n=some R):cI bk 53 [cA n] (H dr R):=by
 exact eC Tryz.func53 M<|aV<|aC pO mH M fun b=>cb<|aY M<|K (bP (y:=(⟨(2:Int),n,(0:Int),[]⟩:bK)) pO Kf mH (⟨_,_,_,_,_,M,qB,M,hI,⟨_,_,_,_,_,M,sW,M,(D M),M⟩⟩))<|aO pO ae M<|aD 2 M<|dG<|so h▸gE M pO M M M

def Gr col n{R}(h:rh col n=some R):cI bk 22 [cA col,cA n] (H ah R):=by
 refine eC Tryz.func22 M<|aV<|aC aX cF M fun b=>cb<|aV<|K (bP (y:=N8) eY EK ip (⟨_,_,_,_,_,M,lP,M,hI,M⟩))<|bu M<|K (bP (y:=(⟨(2:Int),(0:Int),(0:Int),col,HT⟩:aj)) eY EK ip (⟨_,_,_,_,_,M,lP,M,hI,⟨_,_,_,_,_,M,vM,M,(D M),M⟩⟩))<|eg h GF (wg _ _) ⟨(D M),By,aQ⟩ fun r h=>bu M<|eg h Sy (O3 _) (cm M) fun r1 h=>K (bP (y:=(⟨(1:Int),(0:Int),(0:Int),(0:Int),r1⟩:aj)) eY EK ip (⟨_,_,_,_,_,M,lP,M,hI,⟨_,_,_,_,_,M,z6,M,(D M),M⟩⟩))<|eg h GF (wg _ _) ⟨(D M),By,aQ⟩ fun r2 h=>K (aR (r:=ah) (ys:=[r,r2]) (xs:=[.tmp 8,.tmp 12]) lJ aX M M M M M ⟨(D M),(D M),aQ⟩)<|eg h GF (wg _ _) (cm M) fun r3 h=>aO aX ae M<|aD 4 M ?_;exact dG<|so h▸gE M aX M M M

def Kw{R}(h:ut=some R):cI bk 20 [] (H ay R):=by
 refine eC Tryz.func20 M<|aV<|aC cJ ec M fun b=>cb<|aV<|K (bP (y:=(⟨(22:Int),(0:Int),(0:Int),(0:Int),HT⟩:aj)) eY EK ip (⟨_,_,_,_,_,M,lP,M,hI,M⟩))<|eg h Pr (Gr _ _) (cm M) fun r h=>eg h Pr (Gr _ _) (cm M) fun r1 h=>K (aR (r:=ah) (ys:=[r,r1]) (xs:=[.tmp 3,.tmp 4]) lJ aX M M M M M ⟨(D M),(D M),aQ⟩)<|eg h GF (wg _ _) (cm M) fun r2 h=>aC aX cF M fun b1=>aO aX ae M<|aD 1 M<|cb<|aJ<|cy h fun r3 q_r3 h=>cy h fun r4 q_r4 h=>?_;refine cy h fun r5 q_r5 h=>?_
 refine kh 16 (ts:=[lI ([(2:Int)]),H ak Py,lI ([(2:Int)]),H ak Pz,H ap N8,H ap (⟨(2:Int),(0:Int),(0:Int),(0:Int),HT⟩:aj),H ah r3,H ap (⟨(2:Int),(0:Int),(0:Int),(1:Int),HT⟩:aj),H ah r4,gP (ah) ([r3,r4]),H ah r5,H ak (⟨(2:Int),(0:Int),(1:Int),(0:Int),[],false,r5,[],[],[],[],(0:Int)⟩:aa),H ah r2,H ak (⟨(3:Int),(2:Int),pr,(0:Int),[],false,r2,[],[],[],[],(0:Int)⟩:aa),gP (ak) ([Py,Pz,(⟨(2:Int),(0:Int),(1:Int),(0:Int),[],false,r5,[],[],[],[],(0:Int)⟩:aa),(⟨(3:Int),(2:Int),pr,(0:Int),[],false,r2,[],[],[],[],(0:Int)⟩:aa)]),H ay (⟨[Py,Pz,(⟨(2:Int),(0:Int),(1:Int),(0:Int),[],false,r5,[],[],[],[],(0:Int)⟩:aa),(⟨(3:Int),(2:Int),pr,(0:Int),[],false,r2,[],[],[],[],(0:Int)⟩:aa)]⟩:aw)]) mixed M M M
  ⟨Lk M (aR (r:=cB) (ys:=[(2:Int)]) (xs:=[.const (.int .i64 (2))]) fS cn M M M M M ⟨hI,aQ⟩),
  ⟨eH 7 0 M M (bP (y:=Py) dR EL io (⟨_,_,_,_,_,M,lO,M,hI,⟨_,_,_,_,_,M,nc,M,hI,⟨_,_,_,_,_,M,nb,M,hI,⟨_,_,_,_,_,M,qC,M,(D M),M⟩⟩⟩⟩)),
  ⟨Lk M (aR (r:=cB) (ys:=[(2:Int)]) (xs:=[.const (.int .i64 (2))]) fS cn M M M M M ⟨hI,aQ⟩),
  ⟨eH 9 2 M M (bP (y:=Pz) dR EL io (⟨_,_,_,_,_,M,lO,M,hI,⟨_,_,_,_,_,M,nc,M,hI,⟨_,_,_,_,_,M,nb,M,hI,⟨_,_,_,_,_,M,zZ,M,hI,⟨_,_,_,_,_,M,qC,M,(D M),M⟩⟩⟩⟩⟩)),
  ⟨Lk M (bP (y:=N8) eY EK ip (⟨_,_,_,_,_,M,lP,M,hI,M⟩)),
  ⟨Lk M (bP (y:=(⟨(2:Int),(0:Int),(0:Int),(0:Int),HT⟩:aj)) eY EK ip (⟨_,_,_,_,_,M,lP,M,hI,M⟩)),
  ⟨eH 12 5 M M (ce GF (wg _ _ q_r3) ⟨(D M),By,aQ⟩),
  ⟨Lk M (bP (y:=(⟨(2:Int),(0:Int),(0:Int),(1:Int),HT⟩:aj)) eY EK ip (⟨_,_,_,_,_,M,lP,M,hI,⟨_,_,_,_,_,M,vM,M,hI,M⟩⟩)),
  ⟨eH 14 7 M M (ce GF (wg _ _ q_r4) ⟨(D M),By,aQ⟩),
  ⟨gr 13 6 15 8 M M M (aR (r:=ah) (ys:=[r3,r4]) (xs:=[.tmp 13,.tmp 15]) lJ aX M M M M M ⟨(D M),(D M),aQ⟩),
  ⟨gr 11 4 16 9 M M M (ce GF (wg _ _ q_r5) ⟨(D M),(D M),aQ⟩),
  ⟨eH 17 10 M M (bP (y:=(⟨(2:Int),(0:Int),(1:Int),(0:Int),[],false,r5,[],[],[],[],(0:Int)⟩:aa)) dR EL io (⟨_,_,_,_,_,M,lO,M,hI,⟨_,_,_,_,_,M,nc,M,hI,⟨_,_,_,_,_,M,nb,M,hI,⟨_,_,_,_,_,M,lN,M,(D M),M⟩⟩⟩⟩)),
  ⟨pN 1 M M (oI aX M M),
  ⟨eH 19 12 M M (bP (y:=(⟨(3:Int),(2:Int),pr,(0:Int),[],false,r2,[],[],[],[],(0:Int)⟩:aa)) dR EL io (⟨_,_,_,_,_,M,lO,M,hI,⟨_,_,_,_,_,M,nc,M,hI,⟨_,_,_,_,_,M,nb,M,hI,⟨_,_,_,_,_,M,lN,M,(D M),M⟩⟩⟩⟩)),
  ⟨⟨[⟨8,_,some 1⟩,⟨10,_,some 3⟩,⟨18,_,some 11⟩,⟨20,_,some 13⟩],_,M,⟨M,M,M,M,aQ⟩,M,M,ac M (aR (r:=ak) (ys:=[Py,Pz,(⟨(2:Int),(0:Int),(1:Int),(0:Int),[],false,r5,[],[],[],[],(0:Int)⟩:aa),(⟨(3:Int),(2:Int),pr,(0:Int),[],false,r2,[],[],[],[],(0:Int)⟩:aa)]) (xs:=[.tmp 8,.tmp 10,.tmp 18,.tmp 20]) jR dR M M M M M ⟨(D M),(D M),(D M),(D M),aQ⟩)⟩,
  ⟨eH 21 14 M M (bP (y:=(⟨[Py,Pz,(⟨(2:Int),(0:Int),(1:Int),(0:Int),[],false,r5,[],[],[],[],(0:Int)⟩:aa),(⟨(3:Int),(2:Int),pr,(0:Int),[],false,r2,[],[],[],[],(0:Int)⟩:aa)]⟩:aw)) cJ CW ec (⟨_,_,_,_,_,M,FM,M,(D M),M⟩)),
  aQ⟩⟩⟩⟩⟩⟩⟩⟩⟩⟩⟩⟩⟩⟩⟩⟩ ?_
 exact aO cJ ae M<|aD 0 M<|dG<|so h▸gE M cJ M M M

end Go.Proofs.YtbmmihfagmchaaaGreat

