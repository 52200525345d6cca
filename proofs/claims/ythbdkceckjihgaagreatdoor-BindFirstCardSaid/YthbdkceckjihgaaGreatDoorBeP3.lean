/- cu of this claim: P3. -/
import Derived.Test.YthbdkceckjihgaaGreatDoorBeT
import Derived.Test.YthbdkceckjihgaaGreatDoorBeP2
set_option linter.all false
namespace Go.Proofs.YthbdkceckjihgaaGreatDoor
open Go
set_option maxRecDepth 100000

set_option maxHeartbeats 4000000 in
def WS(b:Nat)(ix:OI) s{R}(h:gu s=some R):dZ aO 93 [Q (ai b 0)] (cA b s ix) (fun _:OI=>ba R.1) (fun j=>cA b R.2 j):=by
 refine dZ.of Tryz.func93 I I I fun w0 S0=>?_;refine(show CG _ _ _ [bx (rH ax (z10 ix s)) 127 b s,Z aG 3 (ix.h 0).1 (ix.h 0).2 s.out.Tables,Z aF 71 (ix.h 1).1 (ix.h 1).2 s.out.Joins,Z aG 3 (ix.h 2).1 (ix.h 2).2 s.out.Keys,Z aU 73 (ix.h 3).1 (ix.h 3).2 s.out.Aggs,Z ae 62 (ix.h 4).1 (ix.h 4).2 s.out.Items,Z aG 3 (ix.h 5).1 (ix.h 5).2 s.kinds,Z aG 3 (ix.h 6).1 (ix.h 6).2 s.groups,bo kq dp (ix.h 7).2 none (ix.oss 0) s.called,bo dO dp (ix.h 8).2 none (ix.oss 1) s.alone,dE (fun y:Int=>ba y) jc (ix.h 9).2 s.behind] _ from ?_);refine bB<|cz<|ci<|aL I<|af (bC (M I))<|bt 24 uV I<|iy (dB dC I (yi (hs' :=(z10 ix s)) pI ⟨.inr ⟨I,I⟩,.inr ⟨I,I⟩,.inr ⟨I,I⟩,.inr ⟨I,I⟩,.inr ⟨I,I⟩,.inr ⟨I,I⟩,.inr ⟨I,I⟩,.inr ⟨I,I⟩,.inr ⟨I,I⟩,.inr ⟨I,I⟩,J⟩ I) I (M I) hI) fun i=>?_;refine(show RG _ _ _ _ [_,_,_,_,_,_,_,_,_,_,_] _ from ?_);refine ci<|aL I<|bE I<|af (bC (M I))<|bt 1 mh I<|bt 4 QW I<|af (aV (r:=rH ax (z10 ix s)) (x:=({s with at_:=(0:Int)}:ac)) N0 I I (rm (fz gH Cg)) (.head _) (M I))<|cI h fun r q_r h=>nt (iS (xs:=[.tmp 6,.tmp 11]) (ts:=[Q (ai b 0),K gm ((({s with at_:=(0:Int)}:ac).from_).From)]) (cA b ({s with at_:=(0:Int)}:ac) ix) _ I Uf (Q9 b ix ({s with at_:=(0:Int)}:ac) _ q_r) ⟨(M I),(M I),J⟩ (fun _=>I)) I fun i1=>?_;refine(show RG _ _ _ _ [_,_,_,_,_,_,_,_,_,_,_] ((12,ba r.1)::_)from ?_);exact bm I<|so h▸dG I i1 I I (fun _ _ h=>h)

def Np tag{R}(h:pS tag=some R):dn aO 119 [ba tag] (ba R):=by
 refine eu Tryz.func119 I<|bB<|cz<|ci<|aM<|av<|aL I<|hM I<|bE I<|br I (eC I)<|br I (oK I)<|mp I<|bH I<|tY h I (fun h=>?_) (fun h=>?_)
 ·exact bB<|gb<|dP<|so h▸aT I I
 ·refine aL I<|af (kj (M I) hI)<|bE I<|aI I (eC I)<|aI I (fun hg=>n5 (db I hg) hI)<|jp I<|bH I<|tY h I (fun h=>?_) (fun h=>?_)
  ·exact bB<|gb<|dP<|so h▸aT I I
  ·refine aL I<|af (kj (M I) hI)<|bE I<|aI I (eC I)<|aI I (fun hg=>n5 (db I hg) hI)<|jp I<|bH I<|tY h I (fun h=>?_) (fun h=>?_)
   ·exact bB<|gb<|dP<|so h▸aT I I
   ·exact co<|bR<|aJ<|bB<|gb<|so h▸aT I I

def S9 n{R}(h:tf n=some R):dn aO 155 [K bh n] (ml R):=by
 refine eu Tryz.func155 I<|bB<|ea I<|dA<|ci<|bJ<|cK qg jK dC I<|ci<|av<|bB<|hM I<|bH I<|tY h I (fun h=>?_) (fun h=>?_)
 ·exact bB<|cK C3 sj qn I<|hU h Ub (Nj _) (eS I) fun r h=>bE I<|aI I (fE uW mL I I)<|aI I (eE dC I I)<|aI I (oK I)<|jp I<|bm I<|dP<|so h▸aT I I
 ·refine bB<|hM I<|bH I<|tY h I (fun h=>?_) (fun h=>?_)
  ·exact bB<|cK C3 sj qn I<|af (cd qn MU rL I)<|af (Mz Nr (M I) (M I))<|bE I<|aI I (fE uW mL I I)<|aI I (eE dC I I)<|aI I (fun hg=>kj (db I hg) hI)<|jp I<|bE I<|aI I (fE uW mL I I)<|aI I (eE dC I I)<|aI I (fun hg=>jn (db I hg) hI)<|jp I<|bm I<|dP<|so h▸aT I I
  ·exact co<|bR<|aJ<|bB<|cK C3 sj qn I<|af (cd qn MU rL I)<|af (Mz Nr (M I) (M I))<|bE I<|aI I (fE uW mL I I)<|aI I (eE dC I I)<|aI I (oK I)<|jp I<|bm I<|so h▸aT I I

def Tk e{R}(h:wE e=some R):dn aO 114 [K ae e] (tT [yC R.1,ml R.2]):=by
 refine eu Tryz.func114 I<|bB<|ea I<|yd aG<|dA<|ci<|bB<|cn false aG 3<|af (cy C0)<|cn false aG 3<|af (cy C0)<|ci<|bJ<|cK zh pQ Ko I<|dN tS I<|af (bU hI)<|bN ?_;refine aJ<|av<|bF (k:=15) I fun hN=>bY<|gS ?_;refine aR (Fa (aA:=fun ls i all l c open1 l1 c1=>(e.Nodes.drop i=ls)/\jL ls i all open1=some R) (Of:=fun _ i all l c open1 l1 c1=>[d7 aG 3 l c all,d7 aG 3 l1 c1 open1]) (Gf:=fun _ i all l c open1 l1 c1=>[(4,ve l c all),(5,ve l1 c1 open1),(15,iL (bh) e.Nodes),(16,ni e.Nodes),(17,ba (i:Int))]) (fun i all l c open1 l1 c1 h=>?_) (fun e1 tl ih i all l c open1 l1 c1 h=>?_) e.Nodes 0 Cu none 0 Cu none 0 ⟨I,h⟩) (bI I)
 ·obtain⟨V,h⟩:=h
  refine eQ V I<|aJ<|aL I<|bE I<|af (fh iO (.tail _ (.head _)) (M I))<|hM I<|bE I<|aI I (eC I)<|aI I (fun hg=>fh iO (.head _) (db I hg))<|aI I (fun hg=>n5 (db I hg) hI)<|jp I ?_;exact lj I<|bm I<|xH<|ld 4 I<|ld 84 I<|ld 2 I<|oC 2 I<|aK<|aK<|so h▸fj I I I
 ·obtain⟨V,h⟩:=h
  refine eP V I<|aM<|av<|aL I<|jB tS iP I (fF V)<|aW iP ny I fun b=>lj I<|cm iP am I<|aX 7 I<|ci<|aM ?_;refine bg<|cK qg jK dC I<|hU h Uk (Np _) (eS I) fun r h=>bH I<|bJ<|bE I<|af (jn (M I) hI)<|bE I<|br I (eC I)<|br I (eC I)<|br I (fun hg=>fh iO (.tail _ (.head _)) (db I hg))<|br I (fun hg=>ki (db I hg) (db I hg))<|mp I<|bE I<|cI h fun t q_t h=>br I (fun hg=>ur iP I I) ?_
  obtain⟨r1,h1t,h0t⟩:=og q_t
  have q_r1g:=fun H=>(h1t H).1
  refine br I (fun hg=>bL XL (S9 _ (q_r1g hg)) ⟨(db I hg),J⟩)<|br I (zO I)<|af (fy (M I) (fun H=>(db I (vG H))) (fun H=>(h1t H).2) h0t)<|dY h I (fun h=>?_) (fun h=>?_)
  ·exact bB<|yd aG<|dA<|ie<|aw<|dP<|aw<|dP<|aK<|aK<|so h▸fj I I I
  ·refine nw<|aL I<|bE I<|af (fh iO (.tail _ (.head _)) (M I))<|bE I<|af (o9 (M I) (M I))<|cI h fun y q_y h=>af (qq iO dC I (.tail _ (.head _)) (M I) (M I) q_y)<|pn (.tail _ (.head _)) q_y fun hv=>bH I<|bB<|af (ry (r:=aG) (ys:=[j9,j9]) (xs:=[.const (.int .i64 (-1)),.const (.int .i64 (-1))]) C7 dC I Hb I I ⟨hI,hI,J⟩)<|aW (r:=G0) (x:=(List.replicate 2 (0:Int))) Hb (fun _=>JM (r:=aG) 2 (fun _=>I) _) I fun b1=>cm Hb am I<|ci<|bB ?_;refine bE I<|bH I<|bJ<|bE I<|af (My iO (.tail _ (.tail _ (.head _))) q_y (M I))<|af (bU hI)<|ci<|av ?_
   have hN1:=hv.2
   refine bY<|iY<|iY ?_;refine aR (sB (aA:=fun ls1 i1 first at1=>(y.drop i1=ls1)/\kS (jL tl) i e1 all open1 r ls1 i1 first at1=some R) (Of:=fun _ i1 first at1=>[d7 aG 3 l c all,d7 aG 3 l1 c1 open1,bx G0 80 b1 at1]) (Gf:=fun _ i1 first at1=>[(4,ve l c all),(5,ve l1 c1 open1),(6,ba (i:Int)),(7,bn bh e1),(8,ba r),(10,Q (ai b1 0)),(11,ba first),(15,iL (bh) e.Nodes),(16,ni e.Nodes),(17,ba (i:Int)),(46,Q (mn 1 l1 c1 (IntKind.i64.wrap ((open1.length:Int)-r)).toNat y.length)),(47,ni y),(48,ba (i1:Int))]) (fun i1 first at1 h=>?_) (fun e2 tl1 ih1 i1 first at1 h=>?_) y 0 (i:Int) ([j9,j9]) ⟨I,h⟩) (bI I)
   ·obtain⟨hx1,h⟩:=h
    refine eQ hx1 I<|aJ<|bJ<|af (aV Hb I I bS (.tail _ (.tail _ (.head _))) (M I))<|cK Ar uT dC I<|cK Aq uS dC I<|af (ry (r:=aG) (ys:=[e1.L,e1.R]) (xs:=[.tmp 65,.tmp 67]) C7 dC I Hb I I ⟨(M I),(M I),J⟩)<|af (CX YF (M I) (M I))<|bN ?_;refine aJ<|tY h I (fun h=>?_) (fun h=>?_)
    ·exact bB<|yd aG<|dA<|ie<|aw<|dP<|aw<|dP<|aK<|aK<|aK<|so h▸fj I I I
    ·refine nw<|aL I<|bE I<|af (aZ (r:=aG) (ys:=[first]) (xs:=[.tmp 71]) iO dC I I I I I ⟨(M I),J⟩)<|cI h fun all1 q_all1 h=>fN dC I I I I iO I I (M I) (M I) q_all1 fun l2 c2=>bH I<|bg<|bE I<|bE I<|af (fh iO (.tail _ (.head _)) (M I))<|bE I<|af (o9 (M I) (M I))<|cI h fun y1 q_y1 h=>af (sQ iO dC I (.tail _ (.head _)) (M I) (M I) q_y1)<|bE I<|af (aZ (r:=aG) (ys:=[(i:Int)]) (xs:=[.tmp 80]) iO dC I I I I I ⟨(M I),J⟩)<|cE<|Ia q_y1 ?_;refine cI h fun open2 q_open2 h=>fN dC I I I I iO I I (M I) (M I) q_open2 fun l3 c3=>lj I<|bN<|eB V hN I<|gT<|aK<|dc ?_;exact bu (aR (ih (i+1) all1 l2 c2 open2 l3 c3 ⟨ee V,h⟩) (bI I))
   ·obtain⟨hx1,h⟩:=h
    refine eP hx1 I<|aM<|av<|aL I<|af (yp iO dC I (.tail _ (.head _)) q_y (M I) (M I) (fF hx1))<|af (cS (r:=aG) (i:=((IntKind.i64.wrap ((open1.length:Int)-r))+(i1:Int))) (foff:=0) dC I I bS I (.tail _ (.head _)) (yR q_y (fF hx1)).1 (M I))<|lj I<|bH I<|cI h fun e3 q_e3 h=>cI h fun e4 q_e4 h=>cI h fun ar q_ar h=>?_
    refine eH 10 [tc (ba (i1:Int)),tc (ba e2),tc (ba first),tc (ve l c all),tc (ba e2),tc (Q (cJ l (e2.toNat*1+0))),tc (ba e3),tc (ba (min first e3)),tc (Q (ai b1 ((i1:Int).toNat*1))),tc (tz)] [false,false,false,false,false,false,false,false,false,true] [fun _=>[d7 aG 3 l c all,d7 aG 3 l1 c1 open1,bx G0 80 b1 at1],fun sg=>[bx G0 80 b1 ar,d7 aG 3 l c all,d7 aG 3 l1 c1 open1]] I mixed I I I I I
     ⟨⟨[⟨12,fun _=>K aG (i1:Int),none⟩],_,0,0,I,⟨(fun _=>I),J⟩,I,I,I,I,I,fun _ sg _ _=>aC I (jz I)⟩,
     ⟨⟨[⟨13,fun _=>K aG e2,none⟩],_,0,0,I,⟨(fun _=>I),J⟩,I,I,I,I,I,fun _ sg _ _=>aC I (jz I)⟩,
     ⟨⟨[⟨11,fun _=>K aG first,none⟩],_,0,1,I,⟨(fun _=>I),J⟩,I,I,I,I,I,fun _ sg _ _=>aC I (jz I)⟩,
     ⟨⟨[⟨4,fun _=>Q (Y l c all.length),none⟩],_,0,1,I,⟨(fun _=>I),J⟩,I,I,I,I,I,fun _ sg _ _=>aC I (jz I)⟩,
     ⟨⟨[⟨13,fun _=>K aG e2,none⟩],_,0,1,I,⟨(fun _=>I),J⟩,I,I,I,I,I,fun _ sg _ _=>aC I (jz I)⟩,
     ⟨⟨[⟨56,fun _=>Q (Y l c all.length),some 3⟩,⟨57,fun _=>K aG e2,some 4⟩],_,0,1,I,⟨(fun _=>I),(fun _=>I),J⟩,I,I,I,I,I,pF (fun sg=>aC I (bK iO dC (.head _) (M I) (M I) q_e3)) (eD (fun sg=>aC I (bK iO dC (.tail _ (.head _)) (M I) (M I) q_e3)))⟩,
     ⟨⟨[⟨58,fun _=>Q (cJ l (e2.toNat*1+0)),some 5⟩],_,0,1,I,⟨(fun _=>I),J⟩,I,I,I,I,I,pF (fun sg=>aC I (cS (r:=aG) (i:=e2) (foff:=0) dC I I bS I (.head _) q_e3 (M I))) (eD (fun sg=>aC I (cS (r:=aG) (i:=e2) (foff:=0) dC I I bS I (.tail _ (.head _)) q_e3 (M I))))⟩,
     ⟨⟨[⟨55,fun _=>K aG first,some 2⟩,⟨59,fun _=>K aG e3,some 6⟩],_,0,1,I,⟨(fun _=>I),(fun _=>I),J⟩,I,I,I,I,I,fun _ sg _ _=>aC I (me (M I) (M I))⟩,
     ⟨⟨[⟨10,fun _=>Q (ai b1 0),none⟩,⟨53,fun _=>K aG (i1:Int),some 0⟩],_,0,0,I,⟨(fun _=>I),(fun _=>I),J⟩,I,I,I,I,I,eD (fun sg=>aC I (nD C7 dC (.tail _ (.tail _ (.head _))) (M I) (M I) q_e4))⟩,
     ⟨⟨[⟨61,fun _=>Q (ai b1 ((i1:Int).toNat*1)),some 8⟩,⟨54,fun _=>K aG e2,some 1⟩],_,I,⟨(fun _=>I),(fun _=>I),J⟩,I,I,I,fun sg=>bw I (EffOK.fr2 (Lu dC I q_e4 (so q_ar) (M I) (M I)))⟩,
     J⟩⟩⟩⟩⟩⟩⟩⟩⟩⟩ (fun sg=>?_)
    refine(show RG _ _ _ _ [_,_,_] _ from ?_);refine lj I<|bN<|eB hx1 hN1 I<|gT<|gT ?_;exact bu (aR (ih1 (i1+1) (min first e3) ar ⟨ee hx1,h⟩) (bI I))

def HP e{R}(h:oc e=some R):dn aO 59 [K ae e] (ba R):=by
 refine eu Tryz.func59 I<|bB<|ea I<|cz<|ci<|bJ<|dM cw I<|hU h X0 (Tk _) (eS I) fun r h=>bE I<|dX I I<|dX I I<|lj I<|bH I<|aL I<|af (nZ (M I)) ?_;refine dY h I (fun h=>?_) (fun h=>?_)
 ·exact bB<|gb<|aw<|so h▸aT I I
 ·exact nw<|bB<|gb<|so h▸aT I I

def VM(l:Option Nat)(c:Nat) s{R}(h:jm s=some R):dZ aO 116 [ve l c s] [d7 aG 3 l c s] (fun i:OI=>ve (i.h 0).1 (i.h 0).2 R) (fun i=>[d7 aG 3 (i.h 0).1 (i.h 0).2 R]):=by
 refine dZ.of Tryz.func116 I I I fun w0 S0=>bB<|cn false aG 3<|af (cy C0)<|ci<|bJ<|bE I<|af (fh iO (.tail _ (.head _)) (M I))<|af (jn (M I) hI)<|dY h I (fun h=>?_) (fun h=>?_)
 ·exact aL I<|bm I<|aw<|aK<|so h▸dG I (oi l c) I I (fun _ _ h=>h)
 ·refine nw<|bJ<|cz<|ci<|av<|iz (.tail _ (.head _)) fun hN=>bY<|C5 ?_;refine aR (jk (aA:=fun ls i=>(s.drop i=ls)/\eo s ls i=some R) (Of:=fun _ i=>[d7 aG 3 l c s]) (Gf:=fun _ i=>[(0,ve l c s),(3,ba (i:Int))]) (fun i h=>?_) (fun e tl ih i h=>?_) (s.drop (1)) 1 ⟨I,h⟩) (bI I)
  ·obtain⟨V,h⟩:=h
   exact gR<|bJ<|bE I<|bE I<|af (fh iO (.head _) (M I))<|Dl I<|ci<|qz (M I) (Ua V)<|gZ<|aH<|aH<|dK<|aJ<|aL I<|bm I<|so h▸dG I (oi l c) I I (fun _ _ h=>h)
  ·obtain⟨V,h⟩:=h
   refine gR<|bJ<|bE I<|bE I<|af (fh iO (.head _) (M I))<|Dl I<|ci<|qy (M I) (Re V)<|nw<|aM<|av<|aM<|cI h fun e1 q_e1 h=>?_
   refine ne (ts:=[_,_,_,_,_,_,_,_,_,_]) mixed I I
    ⟨oL I I,
    ⟨oL I I,
    ⟨oF 16 0 17 1 I I I (bK iO dC (.head _) (M I) (M I) (fF V)),
    ⟨ka 18 2 I I (cS (r:=aG) (i:=(i:Int)) (foff:=0) dC I I bS I (.head _) (fF V) (M I)),
    ⟨oL I I,
    ⟨oL I I,
    ⟨ka 21 5 I I (o9 (M I) hI),
    ⟨oF 20 4 22 6 I I I (bK iO dC (.head _) (M I) (M I) q_e1),
    ⟨ka 23 7 I I (cS (r:=aG) (i:=(IntKind.i64.wrap ((i:Int)-(1:Int)))) (foff:=0) dC I I bS I (.head _) q_e1 (M I)),
    ⟨oF 19 3 24 8 I I I (qe (M I) (M I)),
    J⟩⟩⟩⟩⟩⟩⟩⟩⟩⟩ ?_
   refine aJ<|tY h I (fun h=>?_) (fun h=>?_)
   ·refine aL I<|bE I<|cI h fun y q_y h=>af (qq iO dC I (.head _) (M I) (M I) q_y)<|pn (.head _) q_y fun hv=>bH I<|bJ<|cz<|ci<|av<|bY ?_;refine aR (ND (aA:=fun k1 i1 s1 k=>(y.length-i1=k1)/\dI i y k1 i1 s1 k=some R) (Of:=fun _ i1 s1 k=>[d7 aG 3 l c s1]) (Gf:=fun _ i1 s1 k=>[(0,ve l c s1),(3,ba k),(4,Q (mn 1 l c (i:Int).toNat y.length)),(5,ba (i1:Int))]) (fun i1 s1 k h=>?_) (fun k2 ih1 i1 s1 k h=>?_) (y.length-1) 1 s (i:Int) ⟨I,h⟩) (bI I)
    ·obtain⟨hx1,h⟩:=h
     refine gR<|bJ<|bE I<|bE I<|af (Mx iO hv.1 (M I))<|Dl I<|ci<|qz (M I) (Qz hx1)<|gZ<|aH<|aH<|dK<|aJ<|aL I<|bE I<|cI h fun y1 q_y1 h=>af (qq iO dC I (.head _) (M I) (M I) q_y1)<|pn (.head _) q_y1 fun hv1=>cI h fun cl q_cl h=>?_;exact Pm dC I I iO (fun _=>I) I q_y1 (M I) (so q_cl)<|gw (GH q_y1 (so q_cl)) 0 I<|gw (GH q_y1 (so q_cl)) 54 I<|ci<|aL I<|bE I<|cI h fun y2 q_y2 h=>af (sQ iO dC I (.head _) (M I) (M I) q_y2)<|Ia q_y2<|bm I<|dP<|aw<|dP<|so h▸dG I (oi l c) I I (fun _ _ h=>h)
    ·obtain⟨hx1,h⟩:=h
     refine gR<|bJ<|bE I<|bE I<|af (Mx iO hv.1 (M I))<|Dl I<|ci<|qy (M I) (Qy hx1)<|nw<|aM<|av<|aM<|cI h fun e3 q_e3 h=>cI h fun e4 q_e4 h=>?_
     refine ne (ts:=[_,_,_,_,_,_,_,_,_,_]) mixed I I
      ⟨oL I I,
      ⟨oL I I,
      ⟨oF 35 0 36 1 I I I (tH iO dC I (.head _) (A2 q_y) (M I) (M I) q_e3),
      ⟨ka 37 2 I I (cS (r:=aG) (i:=((i:Int)+(i1:Int))) (foff:=0) dC I I bS I (.head _) (xm q_e3).2.2 (M I)),
      ⟨oL I I,
      ⟨oL I I,
      ⟨ka 40 5 I I (o9 (M I) hI),
      ⟨oF 39 4 41 6 I I I (tH iO dC I (.head _) (A2 q_y) (M I) (M I) q_e4),
      ⟨ka 42 7 I I (cS (r:=aG) (i:=((i:Int)+(IntKind.i64.wrap ((i1:Int)-(1:Int))))) (foff:=0) dC I I bS I (.head _) (xm q_e4).2.2 (M I)),
      ⟨oF 38 3 43 8 I I I (lw (M I) (M I)),
      J⟩⟩⟩⟩⟩⟩⟩⟩⟩⟩ ?_
     refine aJ<|tY h I (fun h=>?_) (fun h=>?_)
     ·refine aL I<|bE I<|bE I<|bE I<|cI h fun e5 q_e5 h=>af (tH iO dC I (.head _) (A2 q_y) (M I) (M I) q_e5)<|af (cS (r:=aG) (i:=((i:Int)+(i1:Int))) (foff:=0) dC I I bS I (.head _) (xm q_e5).2.2 (M I))<|cI h fun e6 q_e6 h=>af (bK iO dC (.head _) (M I) (M I) q_e6)<|cI h fun st q_st h=>lY dC I am I q_e6 (so q_st) (M I) (M I)<|gw (dW (so q_st)) 0 I<|gw (dW (so q_st)) 45 I<|ci<|bg<|bE I<|af (tJ (M I) hI)<|lj I<|bN<|bR<|aJ ?_;refine bg<|bE I<|af (uG (OD hx1 (Wv hv.2)) (M I) hI)<|lj I<|bN ?_;exact bu (aR (ih1 (i1+1) st (IntKind.i64.wrap (k+(1:Int))) ⟨OC hx1,h⟩) (bI I))
     ·refine co<|bR<|aJ<|bg<|bE I<|af (uG (OD hx1 (Wv hv.2)) (M I) hI)<|lj I<|bN ?_;exact bu (aR (ih1 (i1+1) s1 k ⟨OC hx1,h⟩) (bI I))
   ·refine co<|V2 V hN I ?_;exact bu (aR (ih (i+1) ⟨ee V,h⟩) (bI I))

def SE e{R}(h:uj e=some R):j8 aO 60 [K ae e] false aG 3 R:=by
 refine j8.of Tryz.func60 I I I fun w0 S0=>bB<|ea I<|cn false aG 3<|af (cy C0)<|ci<|bJ<|dM cw I<|hU h Ts (HP _) (eS I) fun r h=>lk I<|dY h I (fun h=>?_) (fun h=>?_)
 ·exact bB<|cn false aG 3<|af (cy C0)<|ie<|aw<|so h▸pp I I
 ·refine nw<|bB<|cn false aG 3<|af (cy C0)<|ci<|bJ<|cK zh pQ Ko I<|dN tS I<|af (bU hI)<|ci<|av<|bF (k:=10) I fun hN=>bY<|gS<|C5 ?_;refine aR (sA (aA:=fun ls i out l c=>(e.Nodes.drop i=ls)/\lF ls out=some R) (Of:=fun _ i out l c=>[d7 aG 3 l c out]) (Gf:=fun _ i out l c=>[(3,ve l c out),(10,iL (bh) e.Nodes),(11,ni e.Nodes),(12,ba (i:Int))]) (fun i out l c h=>?_) (fun e1 tl ih i out l c h=>?_) e.Nodes 0 Cu none 0 ⟨I,h⟩) (bI I)
  ·obtain⟨V,h⟩:=h
   refine eQ V I<|aJ<|aL I<|cI h fun Ws q_srt h=>?_;refine RB (n:=out.length) (ys:=Ws) FD ?_ XZ ?_ ?_ ?_ ?_ ?_
   ·rfl
   ·exact q_srt
   ·exact(M I)
   ·rfl
   ·rfl
   intro hl
   refine JQ hl 3 I<|JQ hl 25 I<|ci<|aL I<|cI h fun r1 q_r1 h=>wT [d7 aG 3 l c Ws] _ I XY (VM l c _ q_r1) ⟨(M I),J⟩ I fun i1=>?_;refine(show RG _ _ _ _ [_] ((28,ve (i1.h 0).1 (i1.h 0).2 r1)::_)from ?_);exact bm I<|so h▸pp I I
  ·obtain⟨V,h⟩:=h
   refine eP V I<|aM<|av<|bB<|jB tS iP I (fF V)<|aW iP ny I fun b=>cm iP am I<|aX 5 I<|ci<|bB<|yc qg jK I ?_;refine dM dC I<|hM I<|dY h I (fun h=>?_) (fun h=>?_)
   ·refine bg<|bE I<|cK uW mL dC I<|af (aZ (r:=aG) (ys:=[e1.Col]) (xs:=[.tmp 21]) iO dC I I I I I ⟨(M I),J⟩)<|cI h fun out1 q_out1 h=>fN dC I I I I iO I I (M I) (M I) q_out1 fun l2 c2=>lj I<|bN<|eB V hN I ?_;exact bu (aR (ih (i+1) out1 l2 c2 ⟨ee V,h⟩) (bI I))
   ·refine co<|eB V hN I ?_;exact bu (aR (ih (i+1) out l c ⟨ee V,h⟩) (bI I))
def VK{l:Option Nat}{c:Nat}{xs s:List Int}{lo:Int}{R}(hs:cO xs lo (xs.length:Int)=some s)(h:j3 s=some R):dZ aO 118 [Q (mn 1 l c lo.toNat s.length)] [d7 aG 3 l c xs] (fun i:OI=>ve (i.h 0).1 (i.h 0).2 R) (fun i=>[d7 aG 3 (i.h 0).1 (i.h 0).2 R,d7 aG 3 l c xs]):=by
 refine dZ.of Tryz.func118 I I I fun w0 S0=>bB<|af (cy C0)<|ci<|bJ<|bE I<|Pj (r:=aG) iO (.head _) hs (M I) I fun isnil hisnil=>ci<|C6 (M I) (fun hc=>?_) (fun hc=>?_)
 ·have V:=hisnil hc
  have h:some Cu=some R:=by simpa [j3,lm,V] using h
  exact bB<|cn false aG 3<|af (cy C0)<|ie<|aw<|so h▸dG I (oi none 0) I I (fun _ _ h=>h)
 ·exact nw<|bB<|iJ (r:=aG) (ys:=Cu) (xs:=[]) iO dC I I I I I trivial I fun l1 c1=>bE I<|cI h fun x q_x h=>LQ dC I I I I iO I I (M I) (.tail _ (.head _)) hs (M I) q_x fun l2 c2=>bm I<|so h▸dG I (oi l2 c2) I I (fun _ _ h=>h)

def VL(b:Nat)(l:Option Nat)(c:Nat) stack k{R}(h:nR stack k=some R):dZ aO 117 [ba k,Q (ai b 0)] [bx rV 35 b (Y l c stack.length),d7 aG 3 l c stack] (fun i:OI=>yC R.1) (fun i=>[bx rV 35 b (Y (i.h 0).1 (i.h 0).2 R.2.length),d7 aG 3 (i.h 0).1 (i.h 0).2 R.2]):=by
 refine dZ.of Tryz.func117 I I I fun w0 S0=>bB<|yd aG<|ci<|bB<|af (ub kc (.head _) (M I))<|af (ub kc (.head _) (M I))<|af (fh iO (.tail _ (.head _)) (M I))<|bE I<|af (o9 (M I) (M I))<|cI h fun y q_y h=>af (qq iO dC I (.tail _ (.head _)) (M I) (M I) q_y)<|pn (.tail _ (.head _)) q_y fun hv=>cE<|cI h fun r q_r h=>wT [d7 aG 3 l c stack] _ I XW (VK q_y q_r) ⟨(M I),J⟩ I fun i=>?_;refine(show RG _ _ _ _ [_,_,_] _ from ?_);refine bH I<|bB<|af (ub kc (.tail _ (.tail _ (.head _))) (M I))<|af (ub kc (.tail _ (.tail _ (.head _))) (M I))<|af (fh iO (.tail _ (.head _)) (M I))<|bE I<|af (o9 (M I) (M I))<|cI h fun y1 q_y1 h=>af (sQ iO dC I (.tail _ (.head _)) (M I) (M I) q_y1)<|cE<|Ia q_y1<|ib<|lZ kc I am I (M I) (J5 (M I))<|ci<|aL I<|bH I ?_;exact zB<|gT<|xH<|ld 3 I<|ld 11 I<|ld 4 I<|ld 18 I<|oC 3 I<|aK<|dc<|dc<|so h▸dG I (oi l c) I I (fun _ _ h=>h)

def Vx e do1{R}(h:nG e do1=some R):dn aO 61 [K ae e,(gX aO RY RX (fun(x:ap×(List Int))=>do1 x.1 x.2))] (tT [ba R.1,ba R.2]):=by
 refine eu Tryz.func61 I<|bB<|ea I<|cz<|cz<|ci<|J0<|bB<|cn false aG 3<|aW (x:=Y none 0 0) kc (fun _=>US) I fun b=>ci<|bB<|cz<|ci<|bB<|af (Qt (cts:=[Q (ai b 0)]) (caps:=[.tmp 6]) ⟨(M I),J⟩)<|lj I ?_;refine ci<|bB<|cz<|ci<|aM<|J1<|aJ<|bJ<|cK zh pQ Ko I<|dN tS I<|af (bU hI)<|ci ?_;refine Pv (aA:=fun bad stack l c=>kR bad stack=some R) (Of:=fun bad stack l c=>[bx rV 35 b (Y l c stack.length),d7 aG 3 l c stack]) (Gf:=fun bad stack l c=>[(6,Q (ai b 0)),(7,ba 0),(9,ba bad)]) (fun bad stack l c h=>?_) (fun tD=>?_)
 ·skip
  refine aJ<|bJ<|bE I<|lk I<|dY h I (fun h=>?_) (fun h=>?_)
  ·exact aL I<|bE I<|lj I<|bm I<|aw<|BK<|aK<|aK<|so h▸fj I I I
  ·exact nw<|bB<|af (ub kc (.head _) (M I))<|cI h fun e1 q_e1 h=>af (bK iO dC (.tail _ (.head _)) (M I) hI q_e1)<|af (cS (r:=aG) (i:=(0:Int)) (foff:=0) dC I I bS I (.tail _ (.head _)) q_e1 (M I))<|lj I<|gb<|BK<|aK<|aK<|so h▸fj I I I
 ·skip
  refine bF (k:=16) I fun hN=>bY ?_;refine aR (Fb (aA:=fun ls i bad1 stack1 l1 c1=>(e.Nodes.drop i=ls)/\gq do1 ls bad1 stack1=some R) (Of:=fun _ i bad1 stack1 l1 c1=>[bx rV 35 b (Y l1 c1 stack1.length),d7 aG 3 l1 c1 stack1]) (Gf:=fun _ i bad1 stack1 l1 c1=>[(1,(gX aO RY RX (fun(x:ap×(List Int))=>do1 x.1 x.2))),(6,Q (ai b 0)),(7,ba 0),(8,tC 117 [Q (ai b 0)]),(9,ba bad1),(16,iL (bh) e.Nodes),(17,ni e.Nodes),(18,ba (i:Int))]) (fun i bad1 stack1 l1 c1 h=>?_) (fun e2 tl ih i bad1 stack1 l1 c1 h=>?_) e.Nodes 0 (0:Int) Cu none 0 ⟨I,h⟩) (bI I)
  ·obtain⟨V,h⟩:=h
   refine eQ V I ?_;exact dh (tD bad1 stack1 l1 c1 h) (bI I)
  ·obtain⟨V,h⟩:=h
   refine eP V I<|aM<|av<|bB<|jB tS iP I (fF V)<|aW iP ny I fun b1=>cm iP am I<|aX 11 I<|ci<|aM<|cI h fun r q_r h=>cI h fun r1 q_r1 h=>?_;refine cI h fun r2 q_r2 h=>?_
   refine eH 12 [tc ((gX aO RY RX (fun(x:ap×(List Int))=>do1 x.1 x.2))),tc (K bh e2),tc (tC 117 [Q (ai b 0)]),tc (bn aG e2.Tag),tc (ba e2.Tag),tc (ba r),tc (yC r1.1),tc (tT [ba r2.1,ba r2.2]),tc (tT [ba r2.1,ba r2.2]),tc (ba r2.1),tc (ba r2.2),tc (ba r2.1)] [false,false,false,false,false,false,true,false,false,false,false,false] [fun _=>[bx rV 35 b (Y l1 c1 stack1.length),d7 aG 3 l1 c1 stack1],fun sg=>[bx rV 35 b (Y ((sg 6).h 0).1 ((sg 6).h 0).2 r1.2.length),d7 aG 3 ((sg 6).h 0).1 ((sg 6).h 0).2 r1.2]] I mixed I I I I I
    ⟨⟨[⟨1,fun _=>(gX aO UD Uu (fun(x:ap×(List Int))=>do1 x.1 x.2)),none⟩],_,0,1,I,⟨(fun _=>I),J⟩,I,I,I,I,I,fun _ sg _ _=>aC I (jz I)⟩,
    ⟨⟨[⟨11,fun _=>bn bh e2,none⟩],_,0,1,I,⟨(fun _=>I),J⟩,I,I,I,I,I,fun _ sg _ _=>aC I (ur iP I I)⟩,
    ⟨⟨[⟨8,fun _=>tC 117 [Q (ai b 0)],none⟩],_,0,0,I,⟨(fun _=>I),J⟩,I,I,I,I,I,fun _ sg _ _=>aC I (jz I)⟩,
    ⟨⟨[⟨11,fun _=>bn bh e2,none⟩],_,0,0,I,⟨(fun _=>I),J⟩,I,I,I,I,I,fun _ sg _ _=>aC I (yb qg jK I I)⟩,
    ⟨⟨[⟨26,fun _=>bn aG e2.Tag,some 3⟩],_,0,0,I,⟨(fun _=>I),J⟩,I,I,I,I,I,fun _ sg _ _=>aC I (ur dC I I)⟩,
    ⟨⟨[⟨27,fun _=>K aG e2.Tag,some 4⟩],_,0,0,I,⟨(fun _=>I),J⟩,I,I,I,I,I,fun _ sg _ _=>aC I (bL Uk (Np _ q_r) ⟨(M I),J⟩)⟩,
    ⟨⟨[⟨25,fun _=>tC 117 [Q (ai b 0)],some 2⟩,⟨28,fun _=>K aG r,some 5⟩],_,I,⟨(fun _=>I),(fun _=>I),J⟩,I,I,I,fun sg=>bw I (EffOK.fr1 (EffOK.fr1 (O4 (xs:=[.tmp 28]) (ts:=[K aG r]) (cts:=[Q (ai b 0)]) [bx rV 35 b (Y l1 c1 stack1.length),d7 aG 3 l1 c1 stack1] _ I XX (VL b l1 c1 _ _ q_r1) (M I) ⟨(M I),J⟩ (fun _=>I))))⟩,
    ⟨⟨[⟨23,fun _=>(gX aO UD Uu (fun(x:ap×(List Int))=>do1 x.1 x.2)),some 0⟩,⟨24,fun _=>K bh e2,some 1⟩,⟨29,fun _=>K Ct r1.1,some 6⟩],_,1,1,I,⟨(fun _=>I),(fun _=>I),(fun _=>I),J⟩,I,I,I,I,I,fun _ sg _ _=>aC I (iE (args:=UD) (res:=Uu) (f:=(fun(x:ap×(List Int))=>do1 x.1 x.2)) (x:=((e2,r1.1):ap×(List Int))) (M I) q_r2 ⟨(M I),(M I),J⟩)⟩,
    ⟨⟨[⟨30,fun _=>tT [K aG r2.1,K aG r2.2],some 7⟩],_,1,1,I,⟨(fun _=>I),J⟩,I,I,I,I,I,fun _ sg _ _=>aC I (jz I)⟩,
    ⟨⟨[⟨22,fun _=>tT [K aG r2.1,K aG r2.2],some 8⟩],_,1,1,I,⟨(fun _=>I),J⟩,I,I,I,I,I,fun _ sg _ _=>aC I (yK I I)⟩,
    ⟨⟨[⟨22,fun _=>tT [K aG r2.1,K aG r2.2],some 8⟩],_,1,1,I,⟨(fun _=>I),J⟩,I,I,I,I,I,fun _ sg _ _=>aC I (yK I I)⟩,
    ⟨⟨[⟨31,fun _=>K aG r2.1,some 9⟩],_,1,1,I,⟨(fun _=>I),J⟩,I,I,I,I,I,fun _ sg _ _=>aC I (FQ I)⟩,
    J⟩⟩⟩⟩⟩⟩⟩⟩⟩⟩⟩⟩ (fun sg=>?_)
   refine(show RG _ _ _ _ [_,_] _ from ?_);refine bH I<|bJ<|bE I<|lk I<|dY h I (fun h=>?_) (fun h=>?_)
   ·refine aL I<|bH I<|gZ<|aH<|cg I<|aH<|aH<|dK ?_;exact dh (tD r2.2 r1.2 ((sg 6).h 0).1 ((sg 6).h 0).2 h) (bI I)
   ·refine nw<|bg<|af (ub kc (.head _) (M I))<|bE I<|af (aZ (r:=aG) (ys:=[r2.1]) (xs:=[.tmp 37]) iO dC I I I I I ⟨(M I),J⟩)<|cE<|cI h fun l2 q_l2 h=>fN dC I I I I iO I I (M I) (M I) q_l2 fun l3 c2=>cE<|lZ kc I am I (M I) (J5 (M I))<|bN<|eB V hN I ?_;exact bu (aR (ih (i+1) bad1 l2 l3 c2 ⟨ee V,h⟩) (bI I))

end Go.Proofs.YthbdkceckjihgaaGreatDoor

