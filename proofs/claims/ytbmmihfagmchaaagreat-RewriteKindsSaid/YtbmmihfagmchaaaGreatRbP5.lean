/- cP of this claim: P5. -/
import Derived.Test.YtbmmihfagmchaaaGreatRbT
import Derived.Test.YtbmmihfagmchaaaGreatRbP4
set_option linter.all false
namespace Go.Proofs.YtbmmihfagmchaaaGreat
open Go
set_option maxRecDepth 100000

def Km n l{R}(h:nd n l=some R):cI bk 84 [H ak n,gP (ay) l] (tT [H ay R.1,cA R.2]):=by
 refine eC Tryz.func84 M<|aV<|rz (D M) M fun b=>aC cJ ec M fun b1=>da<|cb<|aV<|bI 1 j6 M<|aS<|cW cn M nc M (D M) hI<|bI 2 pT M<|cW cn M nb M (D M) hI<|cb<|aV<|bC true ak 55<|aC (r:=dA) (x:=dZ Ba N6) cJ sS M fun b2=>cb<|aJ ?_;refine aY M<|c9 Tryz.underlying160 M<|K (cj hI)<|cb<|av<|bE (k:=18) M fun hN=>ci<|cX<|cX<|kg<|kg ?_;refine aN (Fg (h3:=fun ls i n1 x out l1 c=>(l.drop i=ls)/\gq ls i n1 x out=some R) (Of:=fun _ i n1 x out l1 c=>[bx ak 55 b n1,bx ay 39 b1 x,bx dA 39 b2 (dZ out (aK l1 c out.Nodes.length)),gT ak 55 l1 c out.Nodes]) (Gf:=fun _ i n1 x out l1 c=>[(2,tV (ax b 0)),(4,tV (ax b1 0)),(6,tV (ax b2 0)),(18,gP (ay) l),(19,jq l),(20,cA (i:Int))]) (fun i n1 x out l1 c h=>?_) (fun e tl ih i n1 x out l1 c h=>?_) l 0 (aa.mk n.Op pr pr n.Table n.Kinds n.Left n.Cond n.Keys n.Aggs n.Items n.Order n.Limit) Ba ({Ba with Nodes:=Lq}:aw) none 0 ⟨M,h⟩) (bv M)
 ·obtain⟨I,h⟩:=h
  refine eQ I M<|aB<|aJ<|cy h fun r q_r h=>?_
  refine kh 5 (ts:=[tV (ax b2 0),tO ak l1 c out.Nodes,H ak n1,H ak r,gP (ak) ([r])]) mixed M M M
   ⟨pN 6 M M (rJ 0 fY M M M),
   ⟨eH 66 0 M M (gW na jz (.tail _ (.tail _ (.head _))) (.tail _ (.tail _ (.tail _ (.head _)))) M (D M)),
   ⟨pN 2 M M (bf dR M M bN (.head _) (D M)),
   ⟨eH 68 2 M M (ce Pn (Gp _ _ q_r) ⟨(D M),hI,aQ⟩),
   ⟨eH 69 3 M M (aR (r:=ak) (ys:=[r]) (xs:=[.tmp 69]) jR dR M M M M M ⟨(D M),aQ⟩),
   aQ⟩⟩⟩⟩⟩ ?_
  refine d7<|cy h fun l2 q_l2 h=>jg dR M M M M jR M M (D M) (D M) q_l2 fun l3 c1=>bI 0 fY M<|d7<|d6 na M (lL _ _ _) M (D M) (Bx (wy (D M)))<|cb<|bm<|aS<|K (iI (q:=ay) (y:=({out with Nodes:=l2}:aw)) cJ M M M M (.tail _ (.head _)) (fun _ _ _ ho h=>m7 (jO ho (.head _)) h) (D M))<|eg h IJ (xY _) (cm M) fun r1 h=>bu M<|bS M M<|bS M M<|jm M<|aT M<|aV ?_;refine bu M<|jS M<|dq h M (fun h=>?_) (fun h=>?_)
  ·exact aV<|K (bP cJ CW ec M)<|bu M<|d7<|aO cJ ae M<|bF M<|au<|aI 4 M<|aM<|aM<|aM<|so h▸bH M M ⟨bg cJ M M M,aP M,aQ⟩
  ·exact ko<|aV<|K (iI (q:=ay) (y:=({out with Nodes:=l2}:aw)) cJ M M M M (.tail _ (.head _)) (fun _ _ _ ho h=>m7 (jO ho (.head _)) h) (D M))<|d7<|aO cJ ae M<|fK<|aI 4 M<|aM<|aM<|aM<|so h▸bH M M ⟨bg cJ M M M,aP M,aQ⟩
 ·obtain⟨I,h⟩:=h
  refine eP I M<|aJ<|av<|aY M<|iq Tryz.underlying160 cJ M (fz I)<|aC cJ ec M fun b3=>jm M<|aO cJ ae M<|aD 8 M<|cb<|aJ ?_;refine aV<|bA cJ M<|eg h IJ (xY _) (cm M) fun r2 h=>bu M<|bS M M<|bS M M<|jm M<|aT M<|aY M<|jS M<|dq h M (fun h=>?_) (fun h=>?_)
  ·exact aV<|K (bP cJ CW ec M)<|bu M<|aS<|aO cJ ae M<|bF M<|au<|eX<|au<|eX<|aI 4 M<|aM<|aM<|aM<|so h▸bH M M ⟨bg cJ M M M,aP M,aQ⟩
  ·refine ko<|aV<|bI 0 fY M<|K (gW na jz (.tail _ (.tail _ (.head _))) (.tail _ (.tail _ (.tail _ (.head _)))) M (D M))<|K (j3 jR (mD (D M)))<|aT M<|bm<|ca fY d5 na M<|c9 jR M<|K (cj hI)<|cb<|av<|bE (k:=38) M fun hN1=>ci ?_;refine aN (pK (h3:=fun ls1 i1 out1 l4 c2=>(e.Nodes.drop i1=ls1)/\lc (gq tl) i n1 x out ls1 out1=some R) (Of:=fun _ i1 out1 l4 c2=>[bx ak 55 b n1,bx ay 39 b1 x,bx dA 39 b2 (dZ out1 (aK l4 c2 out1.Nodes.length)),gT ak 55 l4 c2 out1.Nodes]) (Gf:=fun _ i1 out1 l4 c2=>[(2,tV (ax b 0)),(4,tV (ax b1 0)),(6,tV (ax b2 0)),(7,cA (i:Int)),(11,jq out.Nodes),(18,gP (ay) l),(19,jq l),(20,cA (i:Int)),(38,gP (ak) e.Nodes),(39,jq e.Nodes),(40,cA (i1:Int))]) (fun i1 out1 l4 c2 h=>?_) (fun e1 tl1 ih1 i1 out1 l4 c2 h=>?_) e.Nodes 0 out l1 c ⟨M,h⟩) (bv M)
   ·obtain⟨hx1,h⟩:=h
    refine eQ hx1 M<|aB<|aY M<|dg M<|dq h M (fun h=>?_) (fun h=>?_)
    ·refine aG<|bI 0 fY M<|K (gW na jz (.tail _ (.tail _ (.head _))) (.tail _ (.tail _ (.tail _ (.head _)))) M (D M))<|K (j3 jR (mD (D M)))<|K (fN (D M) hI)<|bI 1 j6 M<|aO cn nc M<|bq<|dQ I hN M ?_;exact bj (aN (ih (i+1) (aa.mk n1.Op (IntKind.i64.wrap ((out1.Nodes.length:Int)-(1:Int))) n1.B n1.Table n1.Kinds n1.Left n1.Cond n1.Keys n1.Aggs n1.Items n1.Order n1.Limit) x out1 l4 c2 ⟨dC I,h⟩) (bv M))
    ·refine aG<|bI 0 fY M<|K (gW na jz (.tail _ (.tail _ (.head _))) (.tail _ (.tail _ (.tail _ (.head _)))) M (D M))<|K (j3 jR (mD (D M)))<|K (fN (D M) hI)<|bI 2 pT M<|aO cn nb M<|bq<|dQ I hN M ?_;exact bj (aN (ih (i+1) (aa.mk n1.Op n1.A (IntKind.i64.wrap ((out1.Nodes.length:Int)-(1:Int))) n1.Table n1.Kinds n1.Left n1.Cond n1.Keys n1.Aggs n1.Items n1.Order n1.Limit) x out1 l4 c2 ⟨dC I,h⟩) (bv M))
   ·obtain⟨hx1,h⟩:=h
    refine eP hx1 M<|aJ<|av<|aV<|iq jR dR M (fz hx1)<|aC dR io M fun b4=>aO dR ae M<|aD 13 M<|cb<|cy h fun r3 q_r3 h=>?_
    refine kh 6 (ts:=[tV (ax b2 0),tO ak l4 c2 out1.Nodes,H ak e1,jq out.Nodes,H ak r3,gP (ak) ([r3])]) mixed M M M
     ⟨pN 6 M M (rJ 0 fY M M M),
     ⟨eH 44 0 M M (gW na jz (.tail _ (.tail _ (.head _))) (.tail _ (.tail _ (.tail _ (.head _)))) M (D M)),
     ⟨pN 13 M M (oI dR M M),
     ⟨jt M M,
     ⟨gr 46 2 47 3 M M M (ce Pn (Gp _ _ q_r3) ⟨(D M),(D M),aQ⟩),
     ⟨eH 48 4 M M (aR (r:=ak) (ys:=[r3]) (xs:=[.tmp 48]) jR dR M M M M M ⟨(D M),aQ⟩),
     aQ⟩⟩⟩⟩⟩⟩ ?_
    refine d7<|cy h fun l5 q_l5 h=>jg dR M M M M jR M M (D M) (D M) q_l5 fun l6 c3=>bI 0 fY M<|d7<|d6 na M (lL _ _ _) M (D M) (Bx (wy (D M)))<|bq<|dQ hx1 hN1 M<|bp<|bp<|cr<|cr ?_;exact bj (aN (ih1 (i1+1) ({out1 with Nodes:=l5}:aw) l6 c3 ⟨dC hx1,h⟩) (bv M))

def OZ n a1 b{R}(h:xP n a1 b=some R):cI bk 62 [H ak n,H ay a1,H ay b] (tT [H ay R.1,cA R.2]):=by
 refine eC Tryz.func62 M<|aV<|dn M<|dn M<|dn M<|aC cJ ec M fun b1=>da<|cb<|aV<|bA dR M<|bA cJ M<|bA cJ M<|K (aR (r:=ay) (ys:=[a1,b]) (xs:=[.tmp 9,.tmp 10]) Tryz.underlying160 cJ M M M M M ⟨(D M),(D M),aQ⟩)<|eg h QM (Km _ _) (cm M) fun r h=>bS M M<|bS M M<|aO cJ ae M<|aD 6 M<|jm M<|bq ?_;exact aB<|lz<|so h▸bH M M ⟨bg cJ M M M,aP M,aQ⟩

def OY n a1{R}(h:xQ n a1=some R):cI bk 63 [H ak n,H ay a1] (tT [H ay R.1,cA R.2]):=by
 exact eC Tryz.func63 M<|aV<|dn M<|dn M<|aC cJ ec M fun b=>da<|cb<|aV<|bA dR M<|bA cJ M<|K (aR (r:=ay) (ys:=[a1]) (xs:=[.tmp 7]) Tryz.underlying160 cJ M M M M M ⟨(D M),aQ⟩)<|eg h QM (Km _ _) (cm M) fun r h=>bS M M<|bS M M<|aO cJ ae M<|aD 4 M<|bF M<|so h▸bH M M ⟨bg cJ M M M,aP M,aQ⟩

def AH n parts{R}(h:dV n parts=some R):cI bk 37 [H ak n,gP (an) parts] (tT [H an R.1,gM R.2]):=by
 refine eC Tryz.func37 M<|aV<|dn M<|aC br eG M fun b=>cR<|cb<|aV<|K (bP cJ CW ec M)<|aC cJ ec M fun b1=>aO cJ ae M<|da<|cb ?_;refine IW (h3:=fun e l=>kQ parts e l=some R) (Of:=fun e l=>[bx an 87 b oC,bx ay 39 b1 l]) (Gf:=fun e l=>[(1,gP (an) parts),(4,tV (ax b 0)),(6,tV (ax b1 0)),(7,cA e)]) (fun e l h=>?_) (fun af=>?_)
 ·skip
  refine bm<|bu M<|jS M<|dq h M (fun h=>?_) (fun h=>?_)
  ·exact aV<|K (bP br OK eG M)<|aO br ae M<|cR<|dG<|au<|aI 4 M<|aM<|so h▸bH M M ⟨bg br M M M,aP M,aQ⟩
  ·refine ko<|aJ<|cy h fun e1 q_e1 h=>?_
   refine kh 11 (ts:=[H ay l,tV (ax b1 0),gP (ak) l.Nodes,tV (ax b1 0),gP (ak) l.Nodes,jq l.Nodes,cA (IntKind.i64.wrap ((l.Nodes.length:Int)-(1:Int))),bw ak e1,H ak e1,gP (an) parts,H an (⟨l,e1,parts⟩:am)]) mixed M M M
    ⟨pN 6 M M (bf cJ M M bN (.tail _ (.head _)) (D M)),
    ⟨pN 6 M M (rJ 0 fY M M M),
    ⟨eH 38 1 M M (bf na M M d5 (.tail _ (.head _)) (D M)),
    ⟨pN 6 M M (rJ 0 fY M M M),
    ⟨eH 40 3 M M (bf na M M d5 (.tail _ (.head _)) (D M)),
    ⟨eH 41 4 M M (PJ jR M),
    ⟨eH 42 5 M M (fN (D M) hI),
    ⟨gr 39 2 43 6 M M M (LA jR dR M M M q_e1),
    ⟨jF 7 dR M M,
    ⟨jt M M,
    ⟨PK 37 0 45 8 46 9 M M M M (bP (y:=(⟨l,e1,parts⟩:am)) br OK eG (⟨_,_,_,_,_,M,H7,M,(D M),⟨_,_,_,_,_,M,H6,M,(D M),⟨_,_,_,_,_,M,H5,M,(D M),M⟩⟩⟩)),
    aQ⟩⟩⟩⟩⟩⟩⟩⟩⟩⟩⟩ ?_
   exact aO br ae M<|cR<|dG<|aI 4 M<|aM<|so h▸bH M M ⟨bg br M M M,aP M,aQ⟩
 ·skip
  refine aY M<|c9 m8 M<|dg M<|dq h M (fun h=>?_) (fun h=>?_)
  ·refine cy h fun e2 q_e2 h=>cy h fun e3 q_e3 h=>cy h fun r q_r h=>?_
   refine jC 14 [tc (H ak n),tc (gP (an) parts),tc (bw an e2),tc (bw ay e2.Logic),tc (H ay e2.Logic),tc (gP (an) parts),tc (bw an e3),tc (bw ay e3.Logic),tc (H ay e3.Logic),tc (tT [H ay r.1,cA r.2]),tc (tT [H ay r.1,cA r.2]),tc (H ay r.1),tc (cA r.2),tc (vF)] [false,false,false,false,false,false,false,false,false,false,false,false,false,true] [fun _=>[bx ay 39 b1 Ba,bx an 87 b oC],fun sg=>[bx ay 39 b1 r.1,bx an 87 b oC]] M mixed M M M M M
    ⟨⟨[⟨2,fun _=>bw ak n,none⟩],_,0,0,M,⟨(fun _=>M),aQ⟩,M,M,M,M,M,fun _ sg _ _=>ac M (oI dR M M)⟩,
    ⟨⟨[⟨1,fun _=>H Bk parts,none⟩],_,0,0,M,⟨(fun _=>M),aQ⟩,M,M,M,M,M,fun _ sg _ _=>ac M (m0 M)⟩,
    ⟨⟨[⟨14,fun _=>H Bk parts,some 1⟩],_,0,0,M,⟨(fun _=>M),aQ⟩,M,M,M,M,M,fun _ sg _ _=>ac M (bn m8 br M (D M) hI q_e2)⟩,
    ⟨⟨[⟨15,fun _=>bw an e2,some 2⟩],_,0,0,M,⟨(fun _=>M),aQ⟩,M,M,M,M,M,fun _ sg _ _=>ac M (nG xV ql M M)⟩,
    ⟨⟨[⟨16,fun _=>bw ay e2.Logic,some 3⟩],_,0,0,M,⟨(fun _=>M),aQ⟩,M,M,M,M,M,fun _ sg _ _=>ac M (oI cJ M M)⟩,
    ⟨⟨[⟨1,fun _=>H Bk parts,none⟩],_,0,0,M,⟨(fun _=>M),aQ⟩,M,M,M,M,M,fun _ sg _ _=>ac M (m0 M)⟩,
    ⟨⟨[⟨18,fun _=>H Bk parts,some 5⟩],_,0,0,M,⟨(fun _=>M),aQ⟩,M,M,M,M,M,fun _ sg _ _=>ac M (bn m8 br M (D M) hI q_e3)⟩,
    ⟨⟨[⟨19,fun _=>bw an e3,some 6⟩],_,0,0,M,⟨(fun _=>M),aQ⟩,M,M,M,M,M,fun _ sg _ _=>ac M (nG xV ql M M)⟩,
    ⟨⟨[⟨20,fun _=>bw ay e3.Logic,some 7⟩],_,0,0,M,⟨(fun _=>M),aQ⟩,M,M,M,M,M,fun _ sg _ _=>ac M (oI cJ M M)⟩,
    ⟨⟨[⟨13,fun _=>H ak n,some 0⟩,⟨17,fun _=>H ay e2.Logic,some 4⟩,⟨21,fun _=>H ay e3.Logic,some 8⟩],_,0,0,M,⟨(fun _=>M),(fun _=>M),(fun _=>M),aQ⟩,M,M,M,M,M,fun _ sg _ _=>ac M (ce Sv (OZ _ _ _ q_r) ⟨(D M),(D M),(D M),aQ⟩)⟩,
    ⟨⟨[⟨22,fun _=>tT [H ay r.1,H cB r.2],some 9⟩],_,0,0,M,⟨(fun _=>M),aQ⟩,M,M,M,M,M,fun _ sg _ _=>ac M (m0 M)⟩,
    ⟨⟨[⟨12,fun _=>tT [H ay r.1,H cB r.2],some 10⟩],_,0,0,M,⟨(fun _=>M),aQ⟩,M,M,M,M,M,fun _ sg _ _=>ac M (Bb M M)⟩,
    ⟨⟨[⟨12,fun _=>tT [H ay r.1,H cB r.2],some 10⟩],_,0,1,M,⟨(fun _=>M),aQ⟩,M,M,M,M,M,fun _ sg _ _=>ac M (Bb M M)⟩,
    ⟨⟨[⟨6,fun _=>tV (ax b1 0),none⟩,⟨23,fun _=>H ay r.1,some 11⟩],_,M,⟨(fun _=>M),(fun _=>M),aQ⟩,M,M,M,fun sg=>cx M (gD cJ M (pQ ae) M (D M) (D M))⟩,
    aQ⟩⟩⟩⟩⟩⟩⟩⟩⟩⟩⟩⟩⟩⟩ (fun sg=>?_)
   refine(show RG _ _ _ _ [_,_] _ from ?_);refine jm M<|bq<|bp ?_;exact cT (af r.2 r.1 h) (bv M)
  ·refine cy h fun e4 q_e4 h=>cy h fun r1 q_r1 h=>?_
   refine jC 10 [tc (H ak n),tc (gP (an) parts),tc (bw an e4),tc (bw ay e4.Logic),tc (H ay e4.Logic),tc (tT [H ay r1.1,cA r1.2]),tc (tT [H ay r1.1,cA r1.2]),tc (H ay r1.1),tc (cA r1.2),tc (vF)] [false,false,false,false,false,false,false,false,false,true] [fun _=>[bx ay 39 b1 Ba,bx an 87 b oC],fun sg1=>[bx ay 39 b1 r1.1,bx an 87 b oC]] M mixed M M M M M
    ⟨⟨[⟨2,fun _=>bw ak n,none⟩],_,0,0,M,⟨(fun _=>M),aQ⟩,M,M,M,M,M,fun _ sg1 _ _=>ac M (oI dR M M)⟩,
    ⟨⟨[⟨1,fun _=>H Bk parts,none⟩],_,0,0,M,⟨(fun _=>M),aQ⟩,M,M,M,M,M,fun _ sg1 _ _=>ac M (m0 M)⟩,
    ⟨⟨[⟨27,fun _=>H Bk parts,some 1⟩],_,0,0,M,⟨(fun _=>M),aQ⟩,M,M,M,M,M,fun _ sg1 _ _=>ac M (bn m8 br M (D M) hI q_e4)⟩,
    ⟨⟨[⟨28,fun _=>bw an e4,some 2⟩],_,0,0,M,⟨(fun _=>M),aQ⟩,M,M,M,M,M,fun _ sg1 _ _=>ac M (nG xV ql M M)⟩,
    ⟨⟨[⟨29,fun _=>bw ay e4.Logic,some 3⟩],_,0,0,M,⟨(fun _=>M),aQ⟩,M,M,M,M,M,fun _ sg1 _ _=>ac M (oI cJ M M)⟩,
    ⟨⟨[⟨26,fun _=>H ak n,some 0⟩,⟨30,fun _=>H ay e4.Logic,some 4⟩],_,0,0,M,⟨(fun _=>M),(fun _=>M),aQ⟩,M,M,M,M,M,fun _ sg1 _ _=>ac M (ce Su (OY _ _ q_r1) ⟨(D M),(D M),aQ⟩)⟩,
    ⟨⟨[⟨31,fun _=>tT [H ay r1.1,H cB r1.2],some 5⟩],_,0,0,M,⟨(fun _=>M),aQ⟩,M,M,M,M,M,fun _ sg1 _ _=>ac M (m0 M)⟩,
    ⟨⟨[⟨25,fun _=>tT [H ay r1.1,H cB r1.2],some 6⟩],_,0,0,M,⟨(fun _=>M),aQ⟩,M,M,M,M,M,fun _ sg1 _ _=>ac M (Bb M M)⟩,
    ⟨⟨[⟨25,fun _=>tT [H ay r1.1,H cB r1.2],some 6⟩],_,0,1,M,⟨(fun _=>M),aQ⟩,M,M,M,M,M,fun _ sg1 _ _=>ac M (Bb M M)⟩,
    ⟨⟨[⟨6,fun _=>tV (ax b1 0),none⟩,⟨32,fun _=>H ay r1.1,some 7⟩],_,M,⟨(fun _=>M),(fun _=>M),aQ⟩,M,M,M,fun sg1=>cx M (gD cJ M (pQ ae) M (D M) (D M))⟩,
    aQ⟩⟩⟩⟩⟩⟩⟩⟩⟩⟩ (fun sg1=>?_)
   refine(show RG _ _ _ _ [_,_] _ from ?_);refine jm M<|bq<|bp ?_;exact cT (af r1.2 r1.1 h) (bv M)

def NM{rec__:Option (List (Int×(am->Bool->Option (am×Int))))}(hr__: ∀{R:(List (Int×(am->Bool->Option (am×Int))))},rec__=some R->cI bk 65 [] (I5 (fun y:(am->Bool->Option (am×Int))=>DK bk xx HS (fun(x:am×Bool)=>y x.1 x.2)) rF R)) t deep{R}(h:cN rec__ t deep=some R):cI bk 40 [H an t,gM deep] (tT [H an R.1,cA R.2]):=by
 refine eC Tryz.func40 M<|aV<|dn M<|aC br eG M fun b=>da<|cb<|aJ<|aJ<|cy h fun r q_r h=>?_
 refine im (ts:=[_,_,_,_,_,_]) mixed M M
  ⟨Lk M (ce Sq (hr__ q_r) trivial),
  ⟨pN 2 M M (nG iy dP M M),
  ⟨eH 8 1 M M (nG nk fX M M),
  ⟨jF 2 cn M M,
  ⟨gr 7 0 10 3 M M M (Ef (args:=(fun(x:am×Bool)=>[H an x.1,H rB x.2])) (res:=(fun(x:am×Int)=>tT [H an x.1,H cB x.2])) (F:=(fun y:(am->Bool->Option (am×Int))=>(fun(x:am×Bool)=>y x.1 x.2))) Tryz.underlying118 (kF qp) RN (D M) (v6 (D M))),
  ⟨eH 11 4 M M (zy M),
  aQ⟩⟩⟩⟩⟩⟩ ?_
 refine aB<|aY M<|K (Ih ⟨_,_,_,Tryz.underlying93⟩ (D M))<|dq h M (fun h=>?_) (fun h=>?_)
 ·exact aY M<|bA br M<|bu M<|cy h fun r1 q_r1 h=>K (Ij (args:=(fun(x:am×Bool)=>[H an x.1,H rB x.2])) (res:=(fun(x:am×Int)=>tT [H an x.1,H cB x.2])) (f:=(fun z=>((nX r t.root.Op)).bind fun y=>((fun(x:am×Bool)=>y x.1 x.2)) z)) (x:=((t,deep):am×Bool)) (hFo (D M)) q_r1 ⟨(D M),(D M),aQ⟩)<|bS M M<|bS M M<|aO br ae M<|bF M<|au<|aI 4 M<|so h▸bH M M ⟨bg br M M M,aP M,aQ⟩
 ·exact ko<|aV<|bA br M<|aO br ae M<|fK<|aI 4 M<|so h▸bH M M ⟨bg br M M M,aP M,aQ⟩

def NN{rec__:Option (List (Int×(am->Bool->Option (am×Int))))}(hr__: ∀{R:(List (Int×(am->Bool->Option (am×Int))))},rec__=some R->cI bk 65 [] (I5 (fun y:(am->Bool->Option (am×Int))=>DK bk xx HS (fun(x:am×Bool)=>y x.1 x.2)) rF R)) t{R}(h:jV rec__ t=some R):cI bk 38 [H an t] (tT [H an R.1,gM R.2]):=by
 refine eC Tryz.func38 M<|aV<|rz (D M) M fun b=>aC br eG M fun b1=>cR<|cb<|A6<|aJ<|A7<|aB<|aJ<|av<|ci<|cX ?_;refine aN (HN (h3:=fun n t1 x=>dE rec__ n t1 x=some R) (Of:=fun t1 x=>[bx an 87 b t1,bx an 87 b1 x]) (Gf:=fun t1 x=>[(1,tV (ax b 0)),(2,tV (ax b1 0))]) (fun t1 x h=>nn h) (fun n ih t1 x h=>?_) fQ t oC h) (bv M);refine kf<|av<|aV<|K (bf br M M bN (.head _) (D M))<|eg h QS (NM hr__ _ _) (cm M) fun r h=>bu M<|bS M M<|bS M M<|aC br eG M fun b2=>aO br ae M<|aD 4 M<|aT M<|bm<|bu M<|cb<|av<|aJ ?_;refine aG<|dg M<|aT M<|o8 h M (fun h=>?_) (fun h=>?_)
 ·exact il<|bX M<|aL<|bX M<|aL<|dM<|aB<|aV<|K (bf br M M bN (.head _) (D M))<|aS<|aO br ae M<|cR<|dG<|qo<|aI 2 M<|aM<|so h▸bH M M ⟨bg br M M M,aP M,aQ⟩
 ·refine aV<|dg M<|aT M<|o8 h M (fun h=>?_) (fun h=>?_)
  ·exact aV<|K (bf br M M bN (.head _) (D M))<|aS<|aO br ae M<|cR<|dG<|eX<|eX<|eX<|qo<|aI 2 M<|aM<|so h▸bH M M ⟨bg br M M M,aP M,aQ⟩
  ·refine cg<|bh<|aB<|aG<|bA br M<|aO br ae M<|bq<|bh ?_;exact bj (aN (ih r.1 x h) (bv M))

def MO b{R}(h:sT b=some R):cI bk 119 [gM b] (H dr R):=by
 refine eC Tryz.func119 M<|aV<|aC pO mH M fun b1=>cb<|aV<|K (bP (y:=Jf) pO Kf mH (⟨_,_,_,_,_,M,qB,M,hI,M⟩))<|aC pO mH M fun b2=>aO pO ae M<|cb ?_;refine iZ (h3:=fun v=>rK v=some R) (Of:=fun v=>[bx dr 61 b1 HT,bx dr 61 b2 v]) (Gf:=fun v=>[(2,tV (ax b1 0)),(3,tV (ax b2 0))]) (fun v h=>?_) (fun af=>?_)
 ·skip
  exact aV<|K (bf pO M M bN (.tail _ (.head _)) (D M))<|aO pO ae M<|aD 2 M<|dG<|aM<|so h▸gE M pO M M M
 ·skip
  refine aY M<|dq h M (fun h=>?_) (fun h=>?_)
  ·refine aG<|bI 1 AD M<|cW PC M sW M (D M) hI<|bq<|bp ?_;exact cT (af (bK.mk Jf.Kind (1:Int) Jf.U Jf.S) h) (bv M)
  ·refine cg<|bp ?_;exact cT (af Jf h) (bv M)

def Hs l{R}(h:oY l=some R):cI bk 143 [gP (ah) l] (tT [cA R.1,cA R.2]):=by
 refine eC Tryz.func143 M<|aV<|da<|da<|cb<|aV<|da<|cb<|bm<|bu M<|c9 lJ M<|K (cj hI)<|cb<|av<|bE (k:=8) M fun hN=>ci ?_;refine aN (jh (h3:=fun ls i n=>(l.drop i=ls)/\lj ls n=some R) (Of:=fun _ i n=>[]) (Gf:=fun _ i n=>[(4,cA n),(8,gP (ah) l),(9,jq l),(10,cA (i:Int))]) (fun i n h=>?_) (fun e tl ih i n h=>?_) l 0 (0:Int) ⟨M,h⟩) (bv M)
 ·obtain⟨I,h⟩:=h
  exact eQ I M<|aB<|aY M<|jm M<|fK<|so h▸eW M M M
 ·obtain⟨I,h⟩:=h
  refine eP I M<|aJ<|av<|aV<|iq lJ aX M (fz I)<|aC aX cF M fun b=>aO aX ae M<|aD 6 M<|cb<|bm ?_;refine bA aX M<|eg h KX (AI _) (cm M) fun r h=>aT M<|aY M<|jS M<|dq h M (fun h=>?_) (fun h=>?_)
  ·exact aY M<|da<|bF M<|au<|eX<|au<|eX<|so h▸eW M M M
  ·refine ko<|aG<|bu M<|ca dk cE iY M<|c9 gp M<|K (lr (D M) (D M))<|jm M<|bq<|dQ I hN M ?_;exact bj (aN (ih (i+1) (IntKind.i64.wrap (n+(e.Nodes.length:Int))) ⟨dC I,h⟩) (bv M))

def Pe(l:Option Nat)(c:Nat) out e{R}(h:uW out e=some R):fg bk 156 [sO l c out,H ah e] [gT ap 63 l c out] (fun i:OI=>tO ap (i.h 0).1 (i.h 0).2 R) (fun i=>[gT ap 63 (i.h 0).1 (i.h 0).2 R]):=by
 refine fg.of Tryz.func156 M M M fun w0 S0=>Le 0 M<|aV<|dn M<|bC false ap 63<|K (bz sD)<|cb<|aY M<|K (j3 gp (mD (D M)))<|aT M<|bm<|ca dk cE iY M<|c9 gp M<|K (cj hI)<|bq ?_;refine aB<|av<|bE (k:=11) M fun hN=>ci<|oz ?_;refine aN (pK (h3:=fun ls i out1 l1 c1=>(e.Nodes.drop i=ls)/\ig out ls out1=some R) (Of:=fun _ i out1 l1 c1=>[gT ap 63 l1 c1 out1]) (Gf:=fun _ i out1 l1 c1=>[(0,tO ap l1 c1 out1),(5,jq out),(11,gP (ap) e.Nodes),(12,jq e.Nodes),(13,cA (i:Int))]) (fun i out1 l1 c1 h=>?_) (fun e1 tl ih i out1 l1 c1 h=>?_) e.Nodes 0 out l c ⟨M,h⟩) (bv M)
 ·obtain⟨I,h⟩:=h
  exact eQ I M<|aB<|aY M<|bF M<|so h▸mY M (oi l1 c1) M M (fun _ _ h=>h)
 ·obtain⟨I,h⟩:=h
  refine eP I M<|aJ<|av<|aV<|iq gp eY M (fz I)<|aC eY ip M fun b=>aO eY ae M<|cb ?_;refine iZ (h3:=fun n=>oe out (ig out tl) out1 n=some R) (Of:=fun n=>[gT ap 63 l1 c1 out1,bx ap 63 b n]) (Gf:=fun n=>[(0,tO ap l1 c1 out1),(5,jq out),(7,tV (ax b 0)),(11,gP (ap) e.Nodes),(12,jq e.Nodes),(13,cA (i:Int))]) (fun n h=>?_) (fun af=>?_)
  ·skip
   refine iZ (h3:=fun n1=>od (ig out tl) out1 n1=some R) (Of:=fun n1=>[gT ap 63 l1 c1 out1,bx ap 63 b n1]) (Gf:=fun n1=>[(0,tO ap l1 c1 out1),(5,jq out),(7,tV (ax b 0)),(11,gP (ap) e.Nodes),(12,jq e.Nodes),(13,cA (i:Int))]) (fun n1 h=>?_) (fun K1=>?_)
   ·skip
    refine aG<|bu M<|K (bf eY M M bN (.tail _ (.head _)) (D M))<|K (aR (r:=ap) (ys:=[n1]) (xs:=[.tmp 34]) gp eY M M M M M ⟨(D M),aQ⟩)<|cy h fun out2 q_out2 h=>jg eY M M M M gp M M (D M) (D M) q_out2 fun l2 c2=>jm M<|bq<|dQ I hN M<|bp<|aM ?_;exact bj (aN (ih (i+1) out2 l2 c2 ⟨dC I,h⟩) (bv M))
   ·skip
    refine aV<|bI 2 oa M<|K (bf cn M M kI (.tail _ (.head _)) (D M))<|K (gz (D M) hI)<|dq h M (fun h=>?_) (fun h=>?_)
    ·refine aG<|bI 2 oa M<|K (bf cn M M kI (.tail _ (.head _)) (D M))<|bu M<|K (lr (D M) (D M))<|bI 2 oa M<|aS<|aO cn oM M<|bq<|bp ?_;exact cT (K1 (aj.mk n.Tag n.L (IntKind.i64.wrap (n.R+(out.length:Int))) n.Col n.Value) h) (bv M)
    ·refine cg ?_;exact cT (K1 n h) (bv M)
  ·skip
   refine aV<|bI 1 oc M<|K (bf cn M M kK (.head _) (D M))<|K (gz (D M) hI)<|dq h M (fun h=>?_) (fun h=>?_)
   ·refine aG<|bI 1 oc M<|K (bf cn M M kK (.head _) (D M))<|bu M<|K (lr (D M) (D M))<|bI 1 oc M<|aO cn oN M<|bq<|bp ?_;exact cT (af (aj.mk e1.Tag (IntKind.i64.wrap (e1.L+(out.length:Int))) e1.R e1.Col e1.Value) h) (bv M)
   ·refine cg<|bp ?_;exact cT (af e1 h) (bv M)

def Hr root l{R}(h:iT root l=some R):cI bk 144 [H ap root,gP (ah) l] (H ah R):=by
 refine eC Tryz.func144 M<|aV<|rz (D M) M fun b=>aC aX cF M fun b1=>cb<|aV<|bC false ap 63<|K (bz sD)<|cb<|aV<|K (uP (r:=cB) (ys:=[pr,pr]) (xs:=[.const (.int .i64 (-1)),.const (.int .i64 (-1))]) zp cn M wx M M ⟨hI,hI,aQ⟩)<|aC (r:=Cy) (x:=(List.replicate 2 (0:Int))) wx (fun _=>AU (r:=cB) 2 (fun _=>M) _) M fun b2=>aO wx ae M<|cb<|bm<|bu M ?_;refine c9 lJ M<|K (cj hI)<|cb<|av<|bE (k:=10) M fun hN=>ci<|cX<|IS<|Lb 5 M<|cX<|eT<|kg<|kg ?_;refine aN (mX (h3:=fun ls i out l1 c at1=>(l.drop i=ls)/\gB root ls i out at1=some R) (Of:=fun _ i out l1 c at1=>[gT ap 63 l1 c out,bx ap 63 b root,bx ah 27 b1 kp,bx Cy 116 b2 at1]) (Gf:=fun _ i out l1 c at1=>[(2,tV (ax b 0)),(4,tV (ax b1 0)),(5,tO ap l1 c out),(6,tV (ax b2 0)),(10,gP (ah) l),(11,jq l),(12,cA (i:Int))]) (fun i out l1 c at1 h=>?_) (fun e tl ih i out l1 c at1 h=>?_) l 0 Cz none 0 ([pr,pr]) ⟨M,h⟩) (bv M)
 ·obtain⟨I,h⟩:=h
  refine eQ I M<|aB<|aJ<|cy h fun e1 q_e1 h=>cy h fun e2 q_e2 h=>?_
  refine jC 6 [tc (tV (ax b2 ((0:Int).toNat*1))),tc (cA e1),tc (tV (ax b2 ((1:Int).toNat*1))),tc (cA e2),tc (tV (ax b 1)),tc (vF)] [false,false,false,false,false,true] [fun _=>[gT ap 63 l1 c out,bx ap 63 b root,bx ah 27 b1 kp,bx Cy 116 b2 at1],fun sg=>[bx ap 63 b ({root with L:=e1}:aj),gT ap 63 l1 c out,bx ah 27 b1 kp,bx Cy 116 b2 at1]] M mixed M M M M M
   ⟨⟨[⟨6,fun _=>tV (ax b2 0),none⟩],_,0,0,M,⟨(fun _=>M),aQ⟩,M,M,M,M,M,si (fun sg=>ac M (fO zp cn (.tail _ (.tail _ (.tail _ (.head _)))) (D M) hI q_e1))⟩,
   ⟨⟨[⟨26,fun _=>tV (ax b2 ((0:Int).toNat*1)),some 0⟩],_,0,0,M,⟨(fun _=>M),aQ⟩,M,M,M,M,M,si (fun sg=>ac M (Al cn M M (.tail _ (.tail _ (.tail _ (.head _)))) q_e1 (D M)))⟩,
   ⟨⟨[⟨6,fun _=>tV (ax b2 0),none⟩],_,0,1,M,⟨(fun _=>M),aQ⟩,M,M,M,M,M,xy (fun sg=>ac M (fO zp cn (.tail _ (.tail _ (.tail _ (.head _)))) (D M) hI q_e2)) (si (fun sg=>ac M (fO zp cn (.tail _ (.tail _ (.tail _ (.head _)))) (D M) hI q_e2)))⟩,
   ⟨⟨[⟨28,fun _=>tV (ax b2 ((1:Int).toNat*1)),some 2⟩],_,0,1,M,⟨(fun _=>M),aQ⟩,M,M,M,M,M,xy (fun sg=>ac M (Al cn M M (.tail _ (.tail _ (.tail _ (.head _)))) q_e2 (D M))) (si (fun sg=>ac M (Al cn M M (.tail _ (.tail _ (.tail _ (.head _)))) q_e2 (D M))))⟩,
   ⟨⟨[⟨2,fun _=>tV (ax b 0),none⟩],_,0,0,M,⟨(fun _=>M),aQ⟩,M,M,M,M,M,fun _ sg _ _=>ac M (rJ 1 oc M M M)⟩,
   ⟨⟨[⟨30,fun _=>tV (ax b 1),some 4⟩,⟨27,fun _=>H cB e1,some 1⟩],_,M,⟨(fun _=>M),(fun _=>M),aQ⟩,M,M,M,fun sg=>cx M (EffOK.fr1 (gD cn M (pQ oN) M (D M) (D M)))⟩,
   aQ⟩⟩⟩⟩⟩⟩ (fun sg=>?_)
  refine(show RG _ _ _ _ [_,_,_,_] _ from ?_);exact bI 2 oa M<|aO cn oM M<|cb<|aY M<|K (bf (x:=(aj.mk ({root with L:=e1}:aj).Tag ({root with L:=e1}:aj).L e2 ({root with L:=e1}:aj).Col ({root with L:=e1}:aj).Value)) eY M M bN (.head _) (D M))<|K (aR (r:=ap) (ys:=[(aj.mk ({root with L:=e1}:aj).Tag ({root with L:=e1}:aj).L e2 ({root with L:=e1}:aj).Col ({root with L:=e1}:aj).Value)]) (xs:=[.tmp 33]) gp eY M M M M M ⟨(D M),aQ⟩)<|aS<|cy h fun l2 q_l2 h=>jg eY M M M M gp M M (D M) (D M) q_l2 fun l3 c1=>K (bP (y:=(⟨l2⟩:ai)) aX u9 cF (⟨_,_,_,_,_,M,qi,M,(mD (D M)),M⟩))<|dl<|aO aX ae M<|aD 4 M<|dG<|aM<|aM<|aM<|so h▸gE M aX M M M
 ·obtain⟨I,h⟩:=h
  refine eP I M<|aJ<|av<|aY M<|iq lJ aX M (fz I)<|aC aX cF M fun b3=>jm M<|aO aX ae M<|aD 8 M<|cb<|aJ ?_;refine aG<|bu M<|bA aX M<|cy h fun r q_r h=>uC [gT ap 63 l1 c out] _ M Q1 (Pe l1 c _ _ q_r) ⟨(wy (D M)),(D M),aQ⟩ M fun i1=>?_;refine(show RG _ _ _ _ [_,_,_,_] ((19,tO ap (i1.h 0).1 (i1.h 0).2 r)::_)from ?_);refine aT M<|aG<|bu M<|bu M<|K (j3 gp (mD (D M)))<|K (fN (D M) hI)<|cy h fun e3 q_e3 h=>K (fO zp cn (.tail _ (.tail _ (.tail _ (.head _)))) (D M) (D M) q_e3)<|d7<|cy h fun ar q_ar h=>IN cn M q_e3 (so q_ar) (D M) (D M)<|bq<|dQ I hN M<|cr<|cr<|cr ?_;exact bj (aN (ih (i+1) r (i1.h 0).1 (i1.h 0).2 ar ⟨dC I,h⟩) (bv M))

end Go.Proofs.YtbmmihfagmchaaaGreat

