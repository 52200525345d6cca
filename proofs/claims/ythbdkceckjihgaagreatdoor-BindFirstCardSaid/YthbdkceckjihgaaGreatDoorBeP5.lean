/- cu of this claim: P5. -/
import Derived.Test.YthbdkceckjihgaaGreatDoorBeT
import Derived.Test.YthbdkceckjihgaaGreatDoorBeP4
set_option linter.all false
namespace Go.Proofs.YthbdkceckjihgaaGreatDoor
open Go
set_option maxRecDepth 100000

def SY s v{R}(h:j0 s v=some R):dn aO 179 [yC s,ba v] (ba R):=by
 refine eu Tryz.func179 I<|bB<|cz<|ci<|bJ<|bE I<|dN iO I<|af (bU hI)<|ci<|av<|bF (k:=6) I fun hN=>bY ?_;refine aR (jk (aA:=fun ls i=>(s.drop i=ls)/\gj v ls i=some R) (Of:=fun _ i=>[]) (Gf:=fun _ i=>[(0,yC s),(1,ba v),(7,ni s),(8,ba (i:Int))]) (fun i h=>?_) (fun e tl ih i h=>?_) s 0 ⟨I,h⟩) (bI I)
 ·obtain⟨V,h⟩:=h
  exact eQ V I<|aJ<|bB<|gb<|so h▸aT I I
 ·obtain⟨V,h⟩:=h
  refine eP V I<|aM<|av<|aL I<|bH I<|aL I<|bE I<|bE I<|vh iO dC I (fF V) ?_;refine dM dC I<|af (qe (M I) (M I))<|dY h I (fun h=>?_) (fun h=>?_)
  ·exact aL I<|bm I<|dP<|aw<|dP<|so h▸aT I I
  ·refine co<|eB V hN I ?_;exact bu (aR (ih (i+1) ⟨ee V,h⟩) (bI I))

def SQ s f{R}(h:gA s f=some R):dn aO 215 [iL (aU) s,(gX aO RU Cr (fun(x:jT)=>f x))] (ba R):=by
 refine eu Tryz.func215 I<|bB<|cz<|ci<|bJ<|bE I<|dN FJ I<|af (bU hI)<|ci<|av<|bF (k:=6) I fun hN=>bY ?_;refine aR (jk (aA:=fun ls i=>(s.drop i=ls)/\dq f ls i=some R) (Of:=fun _ i=>[]) (Gf:=fun _ i=>[(0,iL (aU) s),(1,(gX aO RU Cr (fun(x:jT)=>f x))),(7,ni s),(8,ba (i:Int))]) (fun i h=>?_) (fun e tl ih i h=>?_) s 0 ⟨I,h⟩) (bI I)
 ·obtain⟨V,h⟩:=h
  exact eQ V I<|aJ<|bB<|gb<|so h▸aT I I
 ·obtain⟨V,h⟩:=h
  refine eP V I<|aM<|av<|aL I<|bH I<|aL I<|bE I<|bE I<|vh FJ Hc I (fF V) ?_;refine dM Hc I<|cI h fun r q_r h=>af (iE (args:=RU) (res:=Kc) (f:=(fun(x:jT)=>f x)) (x:=((e):jT)) (M I) q_r ⟨(M I),J⟩)<|dY h I (fun h=>?_) (fun h=>?_)
  ·exact aL I<|bm I<|dP<|aw<|dP<|so h▸aT I I
  ·refine co<|eB V hN I ?_;exact bu (aR (ih (i+1) ⟨ee V,h⟩) (bI I))

def Tj s1 s2{R}(h:gB s1 s2=some R):dn aO 120 [iL (bh) s1,iL (bh) s2] (ml R):=by
 refine eu Tryz.func120 I<|bB<|dA<|ci<|bJ<|bE I<|dN tS I<|bE I<|dN tS I<|af (lw (M I) (M I))<|dY h I (fun h=>?_) (fun h=>?_)
 ·exact bB<|dA<|ie<|aw<|so h▸aT I I
 ·refine nw<|bJ<|bE I<|dN tS I<|af (bU hI)<|ci<|av<|bF (k:=11) I fun hN=>bY ?_;refine aR (jk (aA:=fun ls i=>(s1.drop i=ls)/\dr s2 ls i=some R) (Of:=fun _ i=>[]) (Gf:=fun _ i=>[(0,iL (bh) s1),(1,iL (bh) s2),(12,ni s1),(13,ba (i:Int))]) (fun i h=>?_) (fun e tl ih i h=>?_) s1 0 ⟨I,h⟩) (bI I)
  ·obtain⟨V,h⟩:=h
   exact eQ V I<|aJ<|bB<|dA<|ie<|so h▸aT I I
  ·obtain⟨V,h⟩:=h
   refine eP V I<|aM<|av<|aL I<|bH I<|aM<|cI h fun e1 q_e1 h=>?_
   refine ne (ts:=[_,_,_,_,_,_,_,_,_]) mixed I I
    ⟨oL I I,
    ⟨oL I I,
    ⟨oF 16 0 17 1 I I I (Yf tS iP I I I (fF V)),
    ⟨yM 2 iP I I,
    ⟨oL I I,
    ⟨oL I I,
    ⟨oF 20 4 21 5 I I I (Yf tS iP I I I q_e1),
    ⟨yM 6 iP I I,
    ⟨oF 19 3 23 7 I I I (CX W0 (M I) (M I)),
    J⟩⟩⟩⟩⟩⟩⟩⟩⟩ ?_
   refine aJ<|tY h I (fun h=>?_) (fun h=>?_)
   ·exact bB<|dA<|ie<|dP<|aw<|dP<|so h▸aT I I
   ·refine co<|eB V hN I ?_;exact bu (aR (ih (i+1) ⟨ee V,h⟩) (bI I))

def Vu a1 b{R}(h:xw a1 b=some R):dn aO 65 [K ae a1,K ae b] (ml R):=by
 exact eu Tryz.func65 I<|bB<|ea I<|ea I<|dA<|ci<|bB<|cK zh pQ Ko I<|cK zh pQ Ko I<|hU h XV (Tj _ _) (eS I) fun r h=>bm I<|so h▸aT I I

def SP c p{R}(h:jy c p=some R):dn aO 216 [K aU p,bn aU c] (ml R):=by
 refine eu Tryz.func216 I<|bB<|ea I<|dA<|ci<|bB<|cK By ui dC I<|cK By ui dC I<|af (qe (M I) (M I))<|bE I<|cI h fun t q_t h=>aI I (fE HH Ew I I)<|aI I (eE cw I I)<|aI I (fE HH Ew I I)<|aI I (eE cw I I) ?_
 obtain⟨r,h1t,h0t⟩:=og q_t
 have q_rg:=fun H=>(h1t H).1
 exact aI I (fun hg=>bL YZ (Vu _ _ (q_rg hg)) ⟨(db I hg),(db I hg),J⟩)<|af (cW (M I) (fun H=>(db I H)) (fun H=>(h1t H).2) h0t)<|bm I<|so h▸aT I I

set_option maxHeartbeats 4000000 in
def VH(b:Nat)(ix:OI) s a1{R}(h:kV s a1=some R):dZ aO 180 [Q (ai b 0),K aU a1] (cA b s ix) (fun _:OI=>tT [ba R.1,ba R.2.1]) (fun j=>cA b R.2.2 j):=by
 refine dZ.of Tryz.func180 I I I fun w0 S0=>?_;refine(show CG _ _ _ [bx (rH ax (z10 ix s)) 127 b s,Z aG 3 (ix.h 0).1 (ix.h 0).2 s.out.Tables,Z aF 71 (ix.h 1).1 (ix.h 1).2 s.out.Joins,Z aG 3 (ix.h 2).1 (ix.h 2).2 s.out.Keys,Z aU 73 (ix.h 3).1 (ix.h 3).2 s.out.Aggs,Z ae 62 (ix.h 4).1 (ix.h 4).2 s.out.Items,Z aG 3 (ix.h 5).1 (ix.h 5).2 s.kinds,Z aG 3 (ix.h 6).1 (ix.h 6).2 s.groups,bo kq dp (ix.h 7).2 none (ix.oss 0) s.called,bo dO dp (ix.h 8).2 none (ix.oss 1) s.alone,dE (fun y:Int=>ba y) jc (ix.h 9).2 s.behind] _ from ?_);refine bB<|ea I<|cz<|cz<|ci<|bB<|cz<|ci ?_;refine oB (aA:=fun kind=>iX s a1 kind=some R) (Of:=fun kind=>[bx (rH ax (z10 ix s)) 127 b s,Z aG 3 (ix.h 0).1 (ix.h 0).2 s.out.Tables,Z aF 71 (ix.h 1).1 (ix.h 1).2 s.out.Joins,Z aG 3 (ix.h 2).1 (ix.h 2).2 s.out.Keys,Z aU 73 (ix.h 3).1 (ix.h 3).2 s.out.Aggs,Z ae 62 (ix.h 4).1 (ix.h 4).2 s.out.Items,Z aG 3 (ix.h 5).1 (ix.h 5).2 s.kinds,Z aG 3 (ix.h 6).1 (ix.h 6).2 s.groups,bo kq dp (ix.h 7).2 none (ix.oss 0) s.called,bo dO dp (ix.h 8).2 none (ix.oss 1) s.alone,dE (fun y:Int=>ba y) jc (ix.h 9).2 s.behind]) (Gf:=fun kind=>[(0,Q (ai b 0)),(3,bn aU a1),(6,ba kind)]) (fun kind h=>?_) (fun tD=>?_)
 ·skip
  refine aL I<|af (bC (M I))<|bt 10 fi I<|bt 17 EA I<|af (ed PO I (.head _) (.tail _ (.tail _ (.tail _ (.tail _ (.head _))))) (M I))<|af ((show bP _ _ _ _ ((gX aO RU Cr (fun(x:jT)=>(jy a1) x)))from ou (cts:=[bn aU a1]) (caps:=[.tmp 3]) Xr ⟨(M I),J⟩ (fun x y h=>SP _ _ h)))<|hU h Xs (SQ _ _) ⟨(qZ (M I)),(M I),J⟩ fun r h=>bH I ?_;refine um (aA:=fun i ob ix1=>j7 i ob=some R) (Of:=fun i ob (ix1:OI)=>[bx (rH ax (z10 ix1 ob)) 127 b ob,Z aG 3 (ix1.h 0).1 (ix1.h 0).2 ob.out.Tables,Z aF 71 (ix1.h 1).1 (ix1.h 1).2 ob.out.Joins,Z aG 3 (ix1.h 2).1 (ix1.h 2).2 ob.out.Keys,Z aU 73 (ix1.h 3).1 (ix1.h 3).2 ob.out.Aggs,Z ae 62 (ix1.h 4).1 (ix1.h 4).2 ob.out.Items,Z aG 3 (ix1.h 5).1 (ix1.h 5).2 ob.kinds,Z aG 3 (ix1.h 6).1 (ix1.h 6).2 ob.groups,bo kq dp (ix1.h 7).2 none (ix1.oss 0) ob.called,bo dO dp (ix1.h 8).2 none (ix1.oss 1) ob.alone,dE (fun y:Int=>ba y) jc (ix1.h 9).2 ob.behind]) (Gf:=fun i ob ix1=>[(0,Q (ai b 0)),(9,ba i)]) (fun i ob ix1 h=>?_) (fun K1=>?_)
  ·skip
   refine bJ<|bE I<|af (bC (M I))<|bt 10 fi I<|bt 17 EA I<|af (ed PO I (.head _) (.tail _ (.tail _ (.tail _ (.tail _ (.head _))))) (M I))<|af (mE FJ (qZ (M I)))<|af (ki (M I) hI)<|dY h I (fun h=>?_) (fun h=>?_)
   ·exact bB<|cz<|gb<|aw<|so h▸gN (ts:=[ba 0,ba 228]) (rvs:=[.tmp 4,.tmp 5]) I I ⟨cH I,cH I,J⟩ ix1 I I
   ·exact nw<|aL I<|af (bC (M I))<|bt 10 fi I<|bt 16 HI I<|af (ed kc I (.head _) (.tail _ (.tail _ (.tail _ (.head _)))) (M I))<|af (mE iO (qZ (M I)))<|bE I<|af (tJ (M I) (M I))<|lj I<|gb<|so h▸gN (ts:=[ba (IntKind.i64.wrap ((ob.out.Keys.length:Int)+i)),ba 0]) (rvs:=[.tmp 4,.tmp 5]) I I ⟨cH I,cH I,J⟩ ix1 I I
  ·skip
   refine aL I<|af (jn (M I) hI)<|dY h I (fun h=>?_) (fun h=>?_)
   ·refine aL I<|af (bC (M I))<|bt 10 fi I<|bt 17 EA I<|af (ed PO I (.head _) (.tail _ (.tail _ (.tail _ (.tail _ (.head _))))) (M I))<|af (mE FJ (qZ (M I)))<|bH I<|cI h fun l7 q_l7 h=>cI h fun l8 q_l8 h=>?_
    refine eH 21 [tc (Q (ai b 0)),tc (Q (ai b 0)),tc (Q (ai b 0)),tc (Q (ai b 0)),tc (Q (ai b 10)),tc (Q (ai b 17)),tc (tO aU (ix.h 3).1 (ix.h 3).2 s.out.Aggs),tc (K aU a1),tc (iL (aU) ([a1])),([9],fun s=>tO aU ((s.getD 0 nj).h 0).1 ((s.getD 0 nj).h 0).2 l7),tc (Q (ai b 0)),tc (Q (ai b 0)),tc (Q (ai b 23)),tc (tO aG (ix.h 6).1 (ix.h 6).2 s.groups),tc (ba kind),tc (yC ([kind])),([16],fun s=>tO aG ((s.getD 0 nj).h 0).1 ((s.getD 0 nj).h 0).2 l8),tc (Q (ai b 0)),tc (Q (ai b 10)),tc (Q (ai b 17)),tc (tz)] [false,false,false,false,false,false,false,false,false,true,false,false,false,false,false,false,true,false,false,false,true] [fun _=>[bx (rH ax (z10 ix s)) 127 b s,Z aG 3 (ix.h 0).1 (ix.h 0).2 s.out.Tables,Z aF 71 (ix.h 1).1 (ix.h 1).2 s.out.Joins,Z aG 3 (ix.h 2).1 (ix.h 2).2 s.out.Keys,Z aU 73 (ix.h 3).1 (ix.h 3).2 s.out.Aggs,Z ae 62 (ix.h 4).1 (ix.h 4).2 s.out.Items,Z aG 3 (ix.h 5).1 (ix.h 5).2 s.kinds,Z aG 3 (ix.h 6).1 (ix.h 6).2 s.groups,bo kq dp (ix.h 7).2 none (ix.oss 0) s.called,bo dO dp (ix.h 8).2 none (ix.oss 1) s.alone,dE (fun y:Int=>ba y) jc (ix.h 9).2 s.behind],fun sg=>[Z aU 73 ((sg 9).h 0).1 ((sg 9).h 0).2 l7,bx (rH ax (z10 ix s)) 127 b s,Z aG 3 (ix.h 0).1 (ix.h 0).2 s.out.Tables,Z aF 71 (ix.h 1).1 (ix.h 1).2 s.out.Joins,Z aG 3 (ix.h 2).1 (ix.h 2).2 s.out.Keys,Z ae 62 (ix.h 4).1 (ix.h 4).2 s.out.Items,Z aG 3 (ix.h 5).1 (ix.h 5).2 s.kinds,Z aG 3 (ix.h 6).1 (ix.h 6).2 s.groups,bo kq dp (ix.h 7).2 none (ix.oss 0) s.called,bo dO dp (ix.h 8).2 none (ix.oss 1) s.alone,dE (fun y:Int=>ba y) jc (ix.h 9).2 s.behind],fun sg=>[Z aG 3 ((sg 16).h 0).1 ((sg 16).h 0).2 l8,Z aU 73 ((sg 9).h 0).1 ((sg 9).h 0).2 l7,bx (rH ax (z10 ix s)) 127 b s,Z aG 3 (ix.h 0).1 (ix.h 0).2 s.out.Tables,Z aF 71 (ix.h 1).1 (ix.h 1).2 s.out.Joins,Z aG 3 (ix.h 2).1 (ix.h 2).2 s.out.Keys,Z ae 62 (ix.h 4).1 (ix.h 4).2 s.out.Items,Z aG 3 (ix.h 5).1 (ix.h 5).2 s.kinds,bo kq dp (ix.h 7).2 none (ix.oss 0) s.called,bo dO dp (ix.h 8).2 none (ix.oss 1) s.alone,dE (fun y:Int=>ba y) jc (ix.h 9).2 s.behind],fun sg=>[bx (rH ax [(10,Y (ix.h 0).1 (ix.h 0).2 s.out.Tables.length),(11,Y (ix.h 1).1 (ix.h 1).2 s.out.Joins.length),(16,Y (ix.h 2).1 (ix.h 2).2 s.out.Keys.length),(17,Y ((sg 9).h 0).1 ((sg 9).h 0).2 l7.length),(18,Y (ix.h 4).1 (ix.h 4).2 s.out.Items.length),(22,Y (ix.h 5).1 (ix.h 5).2 s.kinds.length),(23,Y (ix.h 6).1 (ix.h 6).2 s.groups.length),(19,ak (ix.h 7).2),(20,ak (ix.h 8).2),(21,ak (ix.h 9).2)]) 127 b ({s with out:=({s.out with Aggs:=l7}:aS)}:ac),Z aG 3 ((sg 16).h 0).1 ((sg 16).h 0).2 l8,Z aU 73 ((sg 9).h 0).1 ((sg 9).h 0).2 l7,Z aG 3 (ix.h 0).1 (ix.h 0).2 s.out.Tables,Z aF 71 (ix.h 1).1 (ix.h 1).2 s.out.Joins,Z aG 3 (ix.h 2).1 (ix.h 2).2 s.out.Keys,Z ae 62 (ix.h 4).1 (ix.h 4).2 s.out.Items,Z aG 3 (ix.h 5).1 (ix.h 5).2 s.kinds,bo kq dp (ix.h 7).2 none (ix.oss 0) s.called,bo dO dp (ix.h 8).2 none (ix.oss 1) s.alone,dE (fun y:Int=>ba y) jc (ix.h 9).2 s.behind]] I mixed I I I I I
     ⟨⟨[⟨0,fun _=>Q (ai b 0),none⟩],_,0,2,I,⟨(fun _=>I),J⟩,I,I,I,I,I,fun _ sg _ _=>aC I (jz I)⟩,
     ⟨⟨[⟨0,fun _=>Q (ai b 0),none⟩],_,0,3,I,⟨(fun _=>I),J⟩,I,I,I,I,I,fun _ sg _ _=>aC I (jz I)⟩,
     ⟨⟨[⟨0,fun _=>Q (ai b 0),none⟩],_,0,0,I,⟨(fun _=>I),J⟩,I,I,I,I,I,fun _ sg _ _=>aC I (jz I)⟩,
     ⟨⟨[⟨64,fun _=>Q (ai b 0),some 2⟩],_,0,0,I,⟨(fun _=>I),J⟩,I,I,I,I,I,fun _ sg _ _=>aC I (bC (M I))⟩,
     ⟨⟨[⟨65,fun _=>Q (ai b 0),some 3⟩],_,0,0,I,⟨(fun _=>I),J⟩,I,I,I,I,I,fun _ sg _ _=>aC I (mW 10 fi I I I)⟩,
     ⟨⟨[⟨66,fun _=>Q (ai b 10),some 4⟩],_,0,0,I,⟨(fun _=>I),J⟩,I,I,I,I,I,fun _ sg _ _=>aC I (mW 17 EA I I I)⟩,
     ⟨⟨[⟨67,fun _=>Q (ai b 17),some 5⟩],_,0,0,I,⟨(fun _=>I),J⟩,I,I,I,I,I,eD (fun sg=>aC I (ed PO I (.head _) (.tail _ (.tail _ (.tail _ (.tail _ (.head _))))) (M I)))⟩,
     ⟨⟨[⟨3,fun _=>bn aU a1,none⟩],_,0,0,I,⟨(fun _=>I),J⟩,I,I,I,I,I,fun _ sg _ _=>aC I (ur Hc I I)⟩,
     ⟨⟨[⟨69,fun _=>K aU a1,some 7⟩],_,0,0,I,⟨(fun _=>I),J⟩,I,I,I,I,I,fun _ sg _ _=>aC I (aZ (r:=aU) (ys:=[a1]) (xs:=[.tmp 69]) FJ Hc I I I I I ⟨(M I),J⟩)⟩,
     ⟨⟨[⟨68,fun _=>tO aU (ix.h 3).1 (ix.h 3).2 s.out.Aggs,some 6⟩,⟨70,fun _=>K (ek aU) ([a1]),some 8⟩],_,I,⟨(fun _=>I),(fun _=>I),J⟩,I,I,I,fun sg=>bw I (EffOK.fr4 (j6 Hc I I I I FJ I (M I) (M I) q_l7))⟩,
     ⟨⟨[⟨0,fun _=>Q (ai b 0),none⟩],_,0,1,I,⟨(fun _=>I),J⟩,I,I,I,I,I,fun _ sg _ _=>aC I (jz I)⟩,
     ⟨⟨[⟨72,fun _=>Q (ai b 0),some 10⟩],_,0,1,I,⟨(fun _=>I),J⟩,I,I,I,I,I,fun _ sg _ _=>aC I (bC (M I))⟩,
     ⟨⟨[⟨73,fun _=>Q (ai b 0),some 11⟩],_,0,1,I,⟨(fun _=>I),J⟩,I,I,I,I,I,fun _ sg _ _=>aC I (mW 23 xq I I I)⟩,
     ⟨⟨[⟨74,fun _=>Q (ai b 23),some 12⟩],_,0,1,I,⟨(fun _=>I),J⟩,I,I,I,I,I,pF (fun sg=>aC I (ed kc I (.head _) (.tail _ (.tail _ (.tail _ (.tail _ (.tail _ (.tail _ (.tail _ (.head _)))))))) (M I))) (eD (fun sg=>aC I (ed kc I (.tail _ (.head _)) (.tail _ (.tail _ (.tail _ (.tail _ (.tail _ (.tail _ (.tail _ (.head _)))))))) (M I))))⟩,
     ⟨⟨[⟨6,fun _=>K aG kind,none⟩],_,0,1,I,⟨(fun _=>I),J⟩,I,I,I,I,I,fun _ sg _ _=>aC I (jz I)⟩,
     ⟨⟨[⟨76,fun _=>K aG kind,some 14⟩],_,0,1,I,⟨(fun _=>I),J⟩,I,I,I,I,I,fun _ sg _ _=>aC I (aZ (r:=aG) (ys:=[kind]) (xs:=[.tmp 76]) iO dC I I I I I ⟨(M I),J⟩)⟩,
     ⟨⟨[⟨75,fun _=>tO aG (ix.h 6).1 (ix.h 6).2 s.groups,some 13⟩,⟨77,fun _=>K Ct ([kind]),some 15⟩],_,I,⟨(fun _=>I),(fun _=>I),J⟩,I,I,I,fun sg=>bw I (EffOK.fr7 (j6 dC I I I I iO I (M I) (M I) q_l8))⟩,
     ⟨⟨[⟨62,fun _=>Q (ai b 0),some 0⟩],_,2,2,I,⟨(fun _=>I),J⟩,I,I,I,I,I,fun _ sg _ _=>aC I (bC (M I))⟩,
     ⟨⟨[⟨79,fun _=>Q (ai b 0),some 17⟩],_,2,2,I,⟨(fun _=>I),J⟩,I,I,I,I,I,fun _ sg _ _=>aC I (mW 10 fi I I I)⟩,
     ⟨⟨[⟨80,fun _=>Q (ai b 10),some 18⟩],_,2,2,I,⟨(fun _=>I),J⟩,I,I,I,I,I,fun _ sg _ _=>aC I (mW 17 EA I I I)⟩,
     ⟨⟨[⟨81,fun _=>Q (ai b 17),some 19⟩,⟨71,fun sg=>tO aU ((sg 9).h 0).1 ((sg 9).h 0).2 l7,some 9⟩],_,I,⟨(fun _=>I),(fun _=>I),J⟩,I,I,I,fun sg=>bw I (EffOK.fr2 (lG (hs' :=[(10,Y (ix.h 0).1 (ix.h 0).2 s.out.Tables.length),(11,Y (ix.h 1).1 (ix.h 1).2 s.out.Joins.length),(16,Y (ix.h 2).1 (ix.h 2).2 s.out.Keys.length),(17,Y ((sg 9).h 0).1 ((sg 9).h 0).2 l7.length),(18,Y (ix.h 4).1 (ix.h 4).2 s.out.Items.length),(22,Y (ix.h 5).1 (ix.h 5).2 s.kinds.length),(23,Y (ix.h 6).1 (ix.h 6).2 s.groups.length),(19,ak (ix.h 7).2),(20,ak (ix.h 8).2),(21,ak (ix.h 9).2)]) (u:=Y ((sg 9).h 0).1 ((sg 9).h 0).2 l7.length) PO I I (kG gi ke Hg) I ⟨.inr ⟨I,I⟩,.inr ⟨I,I⟩,.inr ⟨I,I⟩,.inl ⟨I,I,I⟩,.inr ⟨I,I⟩,.inr ⟨I,I⟩,.inr ⟨I,I⟩,.inr ⟨I,I⟩,.inr ⟨I,I⟩,.inr ⟨I,I⟩,J⟩ (M I) (qZ (M I)) (vX (M I))))⟩,
     J⟩⟩⟩⟩⟩⟩⟩⟩⟩⟩⟩⟩⟩⟩⟩⟩⟩⟩⟩⟩⟩ (fun sg=>?_)
    refine(show RG _ _ _ _ [_,_,_,_,_,_,_,_,_,_,_] _ from ?_);refine af (bC (M I))<|bt 23 xq I<|iy (lG (hs' :=[(10,Y (ix.h 0).1 (ix.h 0).2 s.out.Tables.length),(11,Y (ix.h 1).1 (ix.h 1).2 s.out.Joins.length),(16,Y (ix.h 2).1 (ix.h 2).2 s.out.Keys.length),(17,Y ((sg 9).h 0).1 ((sg 9).h 0).2 l7.length),(18,Y (ix.h 4).1 (ix.h 4).2 s.out.Items.length),(22,Y (ix.h 5).1 (ix.h 5).2 s.kinds.length),(23,Y ((sg 16).h 0).1 ((sg 16).h 0).2 l8.length),(19,ak (ix.h 7).2),(20,ak (ix.h 8).2),(21,ak (ix.h 9).2)]) (u:=Y ((sg 16).h 0).1 ((sg 16).h 0).2 l8.length) kc I I Dy I ⟨.inr ⟨I,I⟩,.inr ⟨I,I⟩,.inr ⟨I,I⟩,.inr ⟨I,I⟩,.inr ⟨I,I⟩,.inr ⟨I,I⟩,.inl ⟨I,I,I⟩,.inr ⟨I,I⟩,.inr ⟨I,I⟩,.inr ⟨I,I⟩,J⟩ (M I) (qZ (M I)) (vX (M I))) fun i1=>?_;refine(show RG _ _ _ _ [_,_,_,_,_,_,_,_,_,_,_] _ from ?_);refine bN<|ah<|ah<|ah<|nh<|ah<|ah<|GT<|ah<|ah<|ah<|ah ?_;exact dh (K1 (s.out.Aggs.length:Int) ({({s with out:=({s.out with Aggs:=l7}:aS)}:ac)with groups:=l8}:ac) (Sm [((ix.h 0).1,(ix.h 0).2),((ix.h 1).1,(ix.h 1).2),((ix.h 2).1,(ix.h 2).2),(((sg 9).h 0).1,((sg 9).h 0).2),((ix.h 4).1,(ix.h 4).2),((ix.h 5).1,(ix.h 5).2),(((sg 16).h 0).1,((sg 16).h 0).2),(none,(ix.h 7).2),(none,(ix.h 8).2),(none,(ix.h 9).2)] [(ix.oss 0),(ix.oss 1),[]]) h) (bI I)
   ·refine co ?_;exact dh (K1 r s ix h) (bI I)
 ·skip
  refine bB<|cK By ui dC I<|lk I<|dY h I (fun h=>?_) (fun h=>?_)
  ·refine aM<|cI h fun r1 q_r1 h=>?_
   refine ne (ts:=[_,_,_,_,_,_,_,_,_,_,_,_]) mixed I I
    ⟨xQ 3 I I (yb HH Ew I I),
    ⟨yM 0 cw I I,
    ⟨oL I I,
    ⟨ka 16 2 I I (bC (M I)),
    ⟨ka 17 3 I I (mW 22 te I I I),
    ⟨ka 18 4 I I (ed kc I (.head _) (.tail _ (.tail _ (.tail _ (.tail _ (.tail _ (.tail _ (.head _))))))) (M I)),
    ⟨oF 15 1 19 5 I I I (bL Tt (HQ _ _ q_r1) ⟨(M I),(qZ (M I)),J⟩),
    ⟨ka 20 6 I I (jz I),
    ⟨ka 13 7 I I (yK I I),
    ⟨ka 13 7 I I (yK I I),
    ⟨ka 21 8 I I (FQ I),
    ⟨ka 22 9 I I (FQ I),
    J⟩⟩⟩⟩⟩⟩⟩⟩⟩⟩⟩⟩ ?_
   refine aJ<|bJ<|bE I<|lk I<|bE I<|br I (fE By ui I I)<|br I (eE dC I I)<|br I (oK I)<|br I (vj I)<|fa I I I I (fun hg=>jz I)<|fa I I I I (fun hg=>lw (db I hg) hI)<|br I (fun hg=>lv (db I hg) (fun H=>(db I (vK hg H))))<|br I (vj I)<|fa I I I I (fun hg=>jz I)<|fa I I I I (fun hg=>lw (db I hg) hI)<|br I (fun hg=>lv (db I hg) (fun H=>(db I (vK hg H))))<|mp I<|dY h I (fun h=>?_) (fun h=>?_)
   ·exact bB<|cz<|gb<|aw<|aw<|so h▸gN (ts:=[ba 0,ba 201]) (rvs:=[.tmp 4,.tmp 5]) I I ⟨cH I,cH I,J⟩ ix I I
   ·refine nw<|bB<|cK By ui dC I<|hM I<|bE I<|br I (fE By ui I I)<|br I (eE dC I I)<|br I (oK I)<|mp I<|dY h I (fun h=>?_) (fun h=>?_)
    ·refine bg<|bE I<|lj I<|bN ?_;exact dh (tD r1.1 h) (bI I)
    ·refine co ?_;exact dh (tD (2:Int) h) (bI I)
  ·refine co ?_;exact dh (tD (2:Int) h) (bI I)

def SX tag l{R}(h:wF tag l=some R):dn aO 181 [ba tag,K ae l] (tT [K ae R.1,ba R.2]):=by
 exact eu Tryz.func181 I<|bB<|ea I<|aW cw ei I fun b=>cz<|ci<|aL I<|af (cd (y:=(⟨tag,(0:Int),(0:Int),(0:Int),Kb⟩:ap)) iP Gs ny (⟨_,_,_,_,_,I,pJ,I,(M I),I⟩))<|dM cw I<|af (aZ (r:=ae) (ys:=[l]) (xs:=[.tmp 8]) sD cw I I I I I ⟨(M I),J⟩)<|hU h Rn (HR _ _) (eS I) fun r h=>dX I I<|dX I I<|cm cw am I<|aX 4 I<|bm I<|so h▸nf I I ⟨eY cw I I I,cH I,J⟩

def SW tag l r{R}(h:Au tag l r=some R):dn aO 182 [ba tag,K ae l,K ae r] (tT [K ae R.1,ba R.2]):=by
 refine eu Tryz.func182 I<|bB<|ea I<|ea I<|aW cw ei I fun b=>cz<|ci<|aL I<|af (cd (y:=(⟨tag,(0:Int),(0:Int),(0:Int),Kb⟩:ap)) iP Gs ny (⟨_,_,_,_,_,I,pJ,I,(M I),I⟩))<|dM cw I<|dM cw I<|af (aZ (r:=ae) (ys:=[l,r]) (xs:=[.tmp 10,.tmp 11]) sD cw I I I I I ⟨(M I),(M I),J⟩)<|hU h Rn (HR _ _) (eS I) fun r1 h=>dX I I<|dX I I<|cm cw am I<|aX 6 I<|lj I<|bN ?_;exact aJ<|zB<|so h▸nf I I ⟨eY cw I I I,cH I,J⟩

set_option maxHeartbeats 4000000 in
def Q7: ∀(fu:Nat) (b:Nat) (ix:OI) (bslf:Nat) (s:ac) (t:ce) (leaf:(ap->Option (aD×Int))) (tags:(List (Int×Int))) (over:ac->Bool->Option ((List Int)×ac)) (i:Int) (group:Bool) {R:aD×Int×ac} (h:bG fu s t leaf tags over i group=some R),dZ aO 178 [ba i,ml group,bn aY t,bn (rT ((gX aO AU Fk (fun(x:ap)=>leaf x)))) (),bn (rT (Q (ai b 0))) (),bn (rT (AZ (fun y:Int=>ba y) qW tags)) (),R7 178 [bn aY t,bn (rT ((gX aO AU Fk (fun(x:ap)=>leaf x)))) (),bn (rT (Q (ai b 0))) (),bn (rT (AZ (fun y:Int=>ba y) qW tags)) ()] [bn (rT (Dt (kr aO ut (cA b) GZ over))) ()] bslf,bn (rT (Dt (kr aO ut (cA b) GZ over))) ()] (cA b s ix) (fun _:OI=>tT [K ae R.1,ba R.2.1]) (fun j=>cA b R.2.2 j):=by
 intro fu
 induction fu with
 |zero=>intro b ix bslf s t leaf tags over i group R h;exact(nn h).elim
 |succ fu ihR=>
  intro b ix bslf s t leaf tags over i group R h
  refine dZ.of Tryz.func178 I I I fun w0 S0=>?_;refine(show CG _ _ _ [bx (rH ax (z10 ix s)) 127 b s,Z aG 3 (ix.h 0).1 (ix.h 0).2 s.out.Tables,Z aF 71 (ix.h 1).1 (ix.h 1).2 s.out.Joins,Z aG 3 (ix.h 2).1 (ix.h 2).2 s.out.Keys,Z aU 73 (ix.h 3).1 (ix.h 3).2 s.out.Aggs,Z ae 62 (ix.h 4).1 (ix.h 4).2 s.out.Items,Z aG 3 (ix.h 5).1 (ix.h 5).2 s.kinds,Z aG 3 (ix.h 6).1 (ix.h 6).2 s.groups,bo kq dp (ix.h 7).2 none (ix.oss 0) s.called,bo dO dp (ix.h 8).2 none (ix.oss 1) s.alone,dE (fun y:Int=>ba y) jc (ix.h 9).2 s.behind] _ from ?_);refine bB<|aW cw ei I fun b1=>cz<|ci<|bB<|cK pR kQ AX I<|bE I<|cI h fun e q_e h=>jB tU pu I q_e<|aW pu CO I fun b2=>cm pu am I<|aX 12 I<|ci<|bJ<|cK td ox dC I ?_;refine hM I<|dY h I (fun h=>?_) (fun h=>?_)
  ·exact bB<|af (qr Iu (M I))<|cK ta ow qn I<|af (cd (y:=(⟨(1:Int),(0:Int),(0:Int),(0:Int),e.Value⟩:ap)) iP Gs ny (⟨_,_,_,_,_,I,pJ,I,hI,⟨_,_,_,_,_,I,Ky,I,(M I),I⟩⟩))<|cI h fun r q_r h=>af (iE (args:=AU) (res:=UB) (f:=(fun(x:ap)=>leaf x)) (x:=(((⟨(1:Int),(0:Int),(0:Int),(0:Int),e.Value⟩:ap)):ap)) (M I) q_r ⟨(M I),J⟩)<|dX I I<|dX I I<|cm cw am I<|bm I<|aw<|dl 10 I<|so h▸gN (ts:=[K ae r.1,ba r.2]) (rvs:=[.cell 10 62,.tmp 11]) I I ⟨eY cw I I I,cH I,J⟩ ix I I
  ·refine nw<|bJ<|cK td ox dC I<|hM I<|dY h I (fun h=>?_) (fun h=>?_)
   ·refine bB<|af (r0 Iw (M I))<|cK xp uh oH I<|cK uU rz oH I<|af (cd (y:=(⟨e.Table,e.Name⟩:ig)) AW WC CP (⟨_,_,_,_,_,I,F1,I,(M I),⟨_,_,_,_,_,I,F0,I,(M I),I⟩⟩))<|cI h fun r1 q_r1 h=>nt (mT (iS (xs:=[.tmp 45,.tmp 50]) (ts:=[Q (ai b 0),K d8 (⟨e.Table,e.Name⟩:ig)]) (cA b s ix) _ I Ue (Q8 b ix s _ q_r1) ⟨(M I),(M I),J⟩ (fun _=>I))) I fun i1=>?_;refine(show RG _ _ _ _ [_,_,_,_,_,_,_,_,_,_,_,_] ((51,tT [ba r1.1,ba r1.2])::_)from ?_);refine bE I<|dX I I<|dX I I<|lj I<|bH I ?_;refine BI (aA:=fun at1 e1=>dw s leaf at1 e1=some R) (Of:=fun at1 e1=>[bx ae 62 b1 qX,bx (rH ax (z10 ix s)) 127 b s,Z aG 3 (ix.h 0).1 (ix.h 0).2 s.out.Tables,Z aF 71 (ix.h 1).1 (ix.h 1).2 s.out.Joins,Z aG 3 (ix.h 2).1 (ix.h 2).2 s.out.Keys,Z aU 73 (ix.h 3).1 (ix.h 3).2 s.out.Aggs,Z ae 62 (ix.h 4).1 (ix.h 4).2 s.out.Items,Z aG 3 (ix.h 5).1 (ix.h 5).2 s.kinds,Z aG 3 (ix.h 6).1 (ix.h 6).2 s.groups,bo kq dp (ix.h 7).2 none (ix.oss 0) s.called,bo dO dp (ix.h 8).2 none (ix.oss 1) s.alone,dE (fun y:Int=>ba y) jc (ix.h 9).2 s.behind]) (Gf:=fun at1 e1=>[(3,bn (rT ((gX aO AU Fk (fun(x:ap)=>leaf x)))) ()),(10,Q (ai b1 0)),(13,ba at1),(14,ba e1)]) (fun at1 e1 h=>?_) (fun tD=>?_)
    ·skip
     refine bJ<|bE I<|lk I<|dY h I (fun h=>?_) (fun h=>?_)
     ·exact bB<|af (cd cw La ei I)<|bE I<|cm cw am I<|bm I<|aw<|aw<|dl 10 I<|so h▸gN (ts:=[K ae qX,ba e1]) (rvs:=[.cell 10 62,.tmp 11]) I I ⟨eY cw I I I,cH I,J⟩ ix I I
     ·exact nw<|bB<|af (qr Iu (M I))<|bE I<|af (cd (y:=(⟨(2:Int),(0:Int),(0:Int),at1,Kb⟩:ap)) iP Gs ny (⟨_,_,_,_,_,I,pJ,I,hI,⟨_,_,_,_,_,I,yV,I,(M I),I⟩⟩))<|cI h fun r2 q_r2 h=>af (iE (args:=AU) (res:=UB) (f:=(fun(x:ap)=>leaf x)) (x:=(((⟨(2:Int),(0:Int),(0:Int),at1,Kb⟩:ap)):ap)) (M I) q_r2 ⟨(M I),J⟩)<|dX I I<|dX I I<|cm cw am I<|bm I<|aw<|dl 10 I<|so h▸gN (ts:=[K ae r2.1,ba r2.2]) (rvs:=[.cell 10 62,.tmp 11]) I I ⟨eY cw I I I,cH I,J⟩ ix I I
    ·skip
     refine aL I<|hM I<|bE I<|aI I (eC I)<|jp I<|dY h I (fun h=>?_) (fun h=>?_)
     ·refine bB<|af (r0 Iw (M I))<|af (bC (M I))<|bt 10 fi I<|bt 16 HI I<|af (ed kc I (.head _) (.tail _ (.tail _ (.tail _ (.head _)))) (M I))<|bE I<|hU h XB (SY _ _) ⟨(qZ (M I)),(M I),J⟩ fun r3 h=>bH I<|aL I<|af (jn (M I) hI)<|dY h I (fun h=>?_) (fun h=>?_)
      ·refine bg<|cz<|bN<|ah<|ah<|ah<|ah<|ah<|ah<|ah<|ah<|ah<|ah<|ah<|bz ?_;exact dh (tD r3 (225:Int) h) (bI I)
      ·refine co<|ah<|ah<|ah<|ah<|ah<|ah<|ah<|ah<|ah<|ah<|ah<|bz ?_;exact dh (tD r3 r1.2 h) (bI I)
     ·refine co<|ah<|ah<|ah<|ah<|ah<|ah<|ah<|ah<|ah<|ah<|ah<|bz ?_;exact dh (tD r1.1 r1.2 h) (bI I)
   ·refine nw<|bB<|af (qr FS (M I))<|cK td ox dC I<|af (Cb (γ:=(fun y:Int=>K aG y)) (z:=(0:Int)) Dh (uL vQ) Ye (fun S=>⟨_,I,(fun _=>I) S⟩) (M I) (K5 (M I)))<|bH I<|bB<|cn false ae 62<|af (cy C0)<|ci<|bJ<|cK MZ Gw dC I<|cK MY Gv dC I ?_;refine af (ry (r:=aG) (ys:=[e.L,e.R]) (xs:=[.tmp 83,.tmp 85]) C7 dC I Hb I I ⟨(M I),(M I),J⟩)<|af (bU hI)<|ci ?_;refine Pu (aA:=fun parts l c x ob ix1=>fD leaf tags over group e parts x ob=some R) (Of:=fun parts l c x ob (ix1:OI)=>[d7 ae 62 l c parts,bx ae 62 b1 x,bx (rH ax (z10 ix1 ob)) 127 b ob,Z aG 3 (ix1.h 0).1 (ix1.h 0).2 ob.out.Tables,Z aF 71 (ix1.h 1).1 (ix1.h 1).2 ob.out.Joins,Z aG 3 (ix1.h 2).1 (ix1.h 2).2 ob.out.Keys,Z aU 73 (ix1.h 3).1 (ix1.h 3).2 ob.out.Aggs,Z ae 62 (ix1.h 4).1 (ix1.h 4).2 ob.out.Items,Z aG 3 (ix1.h 5).1 (ix1.h 5).2 ob.kinds,Z aG 3 (ix1.h 6).1 (ix1.h 6).2 ob.groups,bo kq dp (ix1.h 7).2 none (ix1.oss 0) ob.called,bo dO dp (ix1.h 8).2 none (ix1.oss 1) ob.alone,dE (fun y:Int=>ba y) jc (ix1.h 9).2 ob.behind]) (Gf:=fun parts l c x ob ix1=>[(1,ml group),(3,bn (rT ((gX aO AU Fk (fun(x:ap)=>leaf x)))) ()),(4,bn (rT (Q (ai b 0))) ()),(7,bn (rT (Dt (kr aO ut (cA b) GZ over))) ()),(10,Q (ai b1 0)),(12,bn cB e),(15,ba ((fP tags e.Tag).getD (0:Int))),(16,ve l c parts)]) (fun parts l c x ob ix1 h=>?_) (fun K1=>?_)
    ·skip
     refine aJ<|aM<|av<|aL I<|af (ki (M I) hI)<|bE I<|aI I (eC I)<|aI I (zO I)<|jp I<|bH I<|tY h I (fun h=>?_) (fun h=>?_)
     ·exact bB<|af (cd cw La ei I)<|cE<|cm cw am I<|gb<|dP<|dl 10 I<|aK<|so h▸gN (ts:=[K ae qX,ba 224]) (rvs:=[.cell 10 62,.tmp 11]) I I ⟨eY cw I I I,cH I,J⟩ ix1 I I
     ·refine aL I<|af (ki (M I) hI)<|bH I<|tY h I (fun h=>?_) (fun h=>?_)
      ·refine aL I<|af (cd (y:=(⟨((fP tags e.Tag).getD (0:Int)),qX⟩:jT)) Hc Yz PF (⟨_,_,_,_,_,I,Qb,I,(M I),I⟩))<|aW Hc PF I fun b3=>cm Hc am I<|ci ?_;refine oB (aA:=fun a1=>em leaf ob a1=some R) (Of:=fun a1=>[bx ae 62 b1 x,bx aU 73 b3 a1,bx (rH ax (z10 ix1 ob)) 127 b ob,Z aG 3 (ix1.h 0).1 (ix1.h 0).2 ob.out.Tables,Z aF 71 (ix1.h 1).1 (ix1.h 1).2 ob.out.Joins,Z aG 3 (ix1.h 2).1 (ix1.h 2).2 ob.out.Keys,Z aU 73 (ix1.h 3).1 (ix1.h 3).2 ob.out.Aggs,Z ae 62 (ix1.h 4).1 (ix1.h 4).2 ob.out.Items,Z aG 3 (ix1.h 5).1 (ix1.h 5).2 ob.kinds,Z aG 3 (ix1.h 6).1 (ix1.h 6).2 ob.groups,bo kq dp (ix1.h 7).2 none (ix1.oss 0) ob.called,bo dO dp (ix1.h 8).2 none (ix1.oss 1) ob.alone,dE (fun y:Int=>ba y) jc (ix1.h 9).2 ob.behind]) (Gf:=fun a1=>[(3,bn (rT ((gX aO AU Fk (fun(x:ap)=>leaf x)))) ()),(4,bn (rT (Q (ai b 0))) ()),(10,Q (ai b1 0)),(21,Q (ai b3 0))]) (fun a1 h=>?_) (fun K2=>?_)
       ·skip
        refine bB<|af (r0 Iw (M I))<|af (aV Hc I I bS (.tail _ (.head _)) (M I))<|cI h fun r4 q_r4 h=>nt (zy (mT (iS (xs:=[.tmp 133,.tmp 134]) (ts:=[Q (ai b 0),K aU a1]) (cA b ob ix1) _ I XA (VH b ix1 ob _ q_r4) ⟨(M I),(M I),J⟩ (fun _=>I)))) I fun i2=>?_;refine(show RG _ _ _ _ [_,_,_,_,_,_,_,_,_,_,_,_,_] ((135,tT [ba r4.1,ba r4.2.1])::_)from ?_);refine bE I<|dX I I<|dX I I<|lj I<|bH I<|bJ<|bE I<|lk I<|dY h I (fun h=>?_) (fun h=>?_)
        ·exact bB<|af (cd cw La ei I)<|bE I<|zr<|cm cw am I<|bm I<|aw<|dP<|dl 10 I<|bz<|aK<|so h▸gN (ts:=[K ae qX,ba r4.2.1]) (rvs:=[.cell 10 62,.tmp 11]) I I ⟨eY cw I I I,cH I,J⟩ i2 I I
        ·exact nw<|bB<|af (qr Iu (M I))<|bE I<|af (cd (y:=(⟨(2:Int),(0:Int),(0:Int),r4.1,Kb⟩:ap)) iP Gs ny (⟨_,_,_,_,_,I,pJ,I,hI,⟨_,_,_,_,_,I,yV,I,(M I),I⟩⟩))<|cI h fun r5 q_r5 h=>af (iE (args:=AU) (res:=UB) (f:=(fun(x:ap)=>leaf x)) (x:=(((⟨(2:Int),(0:Int),(0:Int),r4.1,Kb⟩:ap)):ap)) (M I) q_r5 ⟨(M I),J⟩)<|dX I I<|dX I I<|zr<|cm cw am I<|bm I<|dP<|dl 10 I<|bz<|aK<|so h▸gN (ts:=[K ae r5.1,ba r5.2]) (rvs:=[.cell 10 62,.tmp 11]) I I ⟨eY cw I I I,cH I,J⟩ i2 I I
       ·skip
        refine aL I<|af (fh sD (.tail _ (.head _)) (M I))<|af (ki (M I) hI)<|dY h I (fun h=>?_) (fun h=>?_)
        ·refine bg<|bE I<|cI h fun e2 q_e2 h=>af (bK sD cw (.tail _ (.head _)) (M I) hI q_e2)<|af (cS (r:=ae) (i:=(0:Int)) (foff:=0) cw I I bS I (.tail _ (.head _)) q_e2 (M I))<|bt 1 HH I<|cm cw Qa I<|bN<|dc<|aK<|bb<|bb<|bb<|bb<|bb<|bb<|bb<|bb<|bb<|bb<|bb<|bz<|bb ?_;exact dh (K2 (jT.mk (⟨((fP tags e.Tag).getD (0:Int)),qX⟩:jT).Tag e2) h) (bI I)
        ·refine co<|dc<|aK<|bb<|bb<|bb<|bb<|bb<|bb<|bb<|bb<|bb<|bb<|bb<|bz<|bb ?_;exact dh (K2 (⟨((fP tags e.Tag).getD (0:Int)),qX⟩:jT) h) (bI I)
      ·refine co<|bR<|aJ<|aM<|cI h fun e3 q_e3 h=>cI h fun r6 q_r6 h=>?_
       refine eH 11 [tc (bn aG e.Tag),tc (ba e.Tag),tc (ve l c parts),tc (Q (cJ l ((0:Int).toNat*1+0))),tc (K ae e3),tc (tT [K ae r6.1,ba r6.2]),tc (tT [K ae r6.1,ba r6.2]),tc (K ae r6.1),tc (ba r6.2),([9],fun s=>Q (ai ((s.getD 0 nj).h 0).2 0)),tc (tz)] [false,false,false,false,false,false,false,false,false,true,true] [fun _=>[d7 ae 62 l c parts,bx ae 62 b1 x,bx (rH ax (z10 ix1 ob)) 127 b ob,Z aG 3 (ix1.h 0).1 (ix1.h 0).2 ob.out.Tables,Z aF 71 (ix1.h 1).1 (ix1.h 1).2 ob.out.Joins,Z aG 3 (ix1.h 2).1 (ix1.h 2).2 ob.out.Keys,Z aU 73 (ix1.h 3).1 (ix1.h 3).2 ob.out.Aggs,Z ae 62 (ix1.h 4).1 (ix1.h 4).2 ob.out.Items,Z aG 3 (ix1.h 5).1 (ix1.h 5).2 ob.kinds,Z aG 3 (ix1.h 6).1 (ix1.h 6).2 ob.groups,bo kq dp (ix1.h 7).2 none (ix1.oss 0) ob.called,bo dO dp (ix1.h 8).2 none (ix1.oss 1) ob.alone,dE (fun y:Int=>ba y) jc (ix1.h 9).2 ob.behind],fun sg=>[bx ae 62 ((sg 9).h 0).2 qX,d7 ae 62 l c parts,bx ae 62 b1 x,bx (rH ax (z10 ix1 ob)) 127 b ob,Z aG 3 (ix1.h 0).1 (ix1.h 0).2 ob.out.Tables,Z aF 71 (ix1.h 1).1 (ix1.h 1).2 ob.out.Joins,Z aG 3 (ix1.h 2).1 (ix1.h 2).2 ob.out.Keys,Z aU 73 (ix1.h 3).1 (ix1.h 3).2 ob.out.Aggs,Z ae 62 (ix1.h 4).1 (ix1.h 4).2 ob.out.Items,Z aG 3 (ix1.h 5).1 (ix1.h 5).2 ob.kinds,Z aG 3 (ix1.h 6).1 (ix1.h 6).2 ob.groups,bo kq dp (ix1.h 7).2 none (ix1.oss 0) ob.called,bo dO dp (ix1.h 8).2 none (ix1.oss 1) ob.alone,dE (fun y:Int=>ba y) jc (ix1.h 9).2 ob.behind],fun sg=>[bx ae 62 ((sg 9).h 0).2 r6.1,d7 ae 62 l c parts,bx ae 62 b1 x,bx (rH ax (z10 ix1 ob)) 127 b ob,Z aG 3 (ix1.h 0).1 (ix1.h 0).2 ob.out.Tables,Z aF 71 (ix1.h 1).1 (ix1.h 1).2 ob.out.Joins,Z aG 3 (ix1.h 2).1 (ix1.h 2).2 ob.out.Keys,Z aU 73 (ix1.h 3).1 (ix1.h 3).2 ob.out.Aggs,Z ae 62 (ix1.h 4).1 (ix1.h 4).2 ob.out.Items,Z aG 3 (ix1.h 5).1 (ix1.h 5).2 ob.kinds,Z aG 3 (ix1.h 6).1 (ix1.h 6).2 ob.groups,bo kq dp (ix1.h 7).2 none (ix1.oss 0) ob.called,bo dO dp (ix1.h 8).2 none (ix1.oss 1) ob.alone,dE (fun y:Int=>ba y) jc (ix1.h 9).2 ob.behind]] I mixed I I I I I
        ⟨⟨[⟨12,fun _=>bn cB e,none⟩],_,0,1,I,⟨(fun _=>I),J⟩,I,I,I,I,I,fun _ sg _ _=>aC I (yb td ox I I)⟩,
        ⟨⟨[⟨149,fun _=>bn aG e.Tag,some 0⟩],_,0,1,I,⟨(fun _=>I),J⟩,I,I,I,I,I,fun _ sg _ _=>aC I (ur dC I I)⟩,
        ⟨⟨[⟨16,fun _=>Q (Y l c parts.length),none⟩],_,0,1,I,⟨(fun _=>I),J⟩,I,I,I,I,I,fun _ sg _ _=>aC I (jz I)⟩,
        ⟨⟨[⟨151,fun _=>Q (Y l c parts.length),some 2⟩],_,0,1,I,⟨(fun _=>I),J⟩,I,I,I,I,I,pF (fun sg=>aC I (bK sD cw (.head _) (M I) hI q_e3)) (eD (fun sg=>aC I (bK sD cw (.tail _ (.head _)) (M I) hI q_e3)))⟩,
        ⟨⟨[⟨152,fun _=>Q (cJ l ((0:Int).toNat*1+0)),some 3⟩],_,0,1,I,⟨(fun _=>I),J⟩,I,I,I,I,I,pF (fun sg=>aC I (cS (r:=ae) (i:=(0:Int)) (foff:=0) cw I I bS I (.head _) q_e3 (M I))) (eD (fun sg=>aC I (cS (r:=ae) (i:=(0:Int)) (foff:=0) cw I I bS I (.tail _ (.head _)) q_e3 (M I))))⟩,
        ⟨⟨[⟨150,fun _=>K aG e.Tag,some 1⟩,⟨153,fun _=>K ae e3,some 4⟩],_,0,1,I,⟨(fun _=>I),(fun _=>I),J⟩,I,I,I,I,I,fun _ sg _ _=>aC I (bL Xz (SX _ _ q_r6) ⟨(M I),(M I),J⟩)⟩,
        ⟨⟨[⟨154,fun _=>tT [K ae r6.1,K aG r6.2],some 5⟩],_,0,1,I,⟨(fun _=>I),J⟩,I,I,I,I,I,fun _ sg _ _=>aC I (jz I)⟩,
        ⟨⟨[⟨148,fun _=>tT [K ae r6.1,K aG r6.2],some 6⟩],_,0,1,I,⟨(fun _=>I),J⟩,I,I,I,I,I,fun _ sg _ _=>aC I (yK I I)⟩,
        ⟨⟨[⟨148,fun _=>tT [K ae r6.1,K aG r6.2],some 6⟩],_,0,2,I,⟨(fun _=>I),J⟩,I,I,I,I,I,fun _ sg _ _=>aC I (yK I I)⟩,
        ⟨⟨[],_,I,J,I,I,I,fun sg=>bw I (na cw ei)⟩,
        ⟨⟨[⟨24,fun sg=>Q (ai ((sg 9).h 0).2 0),some 9⟩,⟨155,fun _=>K ae r6.1,some 7⟩],_,I,⟨(fun _=>I),(fun _=>I),J⟩,I,I,I,fun sg=>bw I (dB cw I (wa am) I (M I) (M I))⟩,
        J⟩⟩⟩⟩⟩⟩⟩⟩⟩⟩⟩ (fun sg=>?_)
       refine(show RG _ _ _ _ [_,_,_,_,_,_,_,_,_,_,_,_,_,_] _ from ?_);refine bH I ?_;refine BI (aA:=fun e4 x1=>gv over group ob e4 x1=some R) (Of:=fun e4 x1=>[bx ae 62 b1 x,bx ae 62 ((sg 9).h 0).2 x1,bx (rH ax (z10 ix1 ob)) 127 b ob,Z aG 3 (ix1.h 0).1 (ix1.h 0).2 ob.out.Tables,Z aF 71 (ix1.h 1).1 (ix1.h 1).2 ob.out.Joins,Z aG 3 (ix1.h 2).1 (ix1.h 2).2 ob.out.Keys,Z aU 73 (ix1.h 3).1 (ix1.h 3).2 ob.out.Aggs,Z ae 62 (ix1.h 4).1 (ix1.h 4).2 ob.out.Items,Z aG 3 (ix1.h 5).1 (ix1.h 5).2 ob.kinds,Z aG 3 (ix1.h 6).1 (ix1.h 6).2 ob.groups,bo kq dp (ix1.h 7).2 none (ix1.oss 0) ob.called,bo dO dp (ix1.h 8).2 none (ix1.oss 1) ob.alone,dE (fun y:Int=>ba y) jc (ix1.h 9).2 ob.behind]) (Gf:=fun e4 x1=>[(1,ml group),(7,bn (rT (Dt (kr aO ut (cA b) GZ over))) ()),(10,Q (ai b1 0)),(24,Q (ai ((sg 9).h 0).2 0)),(25,ba e4)]) (fun e4 x1 h=>?_) (fun K3=>?_)
       ·skip
        refine um (aA:=fun e5 ob1 ix2=>mN x1 e5 ob1=some R) (Of:=fun e5 ob1 (ix2:OI)=>[bx ae 62 b1 x,bx ae 62 ((sg 9).h 0).2 x1,bx (rH ax (z10 ix2 ob1)) 127 b ob1,Z aG 3 (ix2.h 0).1 (ix2.h 0).2 ob1.out.Tables,Z aF 71 (ix2.h 1).1 (ix2.h 1).2 ob1.out.Joins,Z aG 3 (ix2.h 2).1 (ix2.h 2).2 ob1.out.Keys,Z aU 73 (ix2.h 3).1 (ix2.h 3).2 ob1.out.Aggs,Z ae 62 (ix2.h 4).1 (ix2.h 4).2 ob1.out.Items,Z aG 3 (ix2.h 5).1 (ix2.h 5).2 ob1.kinds,Z aG 3 (ix2.h 6).1 (ix2.h 6).2 ob1.groups,bo kq dp (ix2.h 7).2 none (ix2.oss 0) ob1.called,bo dO dp (ix2.h 8).2 none (ix2.oss 1) ob1.alone,dE (fun y:Int=>ba y) jc (ix2.h 9).2 ob1.behind]) (Gf:=fun e5 ob1 ix2=>[(10,Q (ai b1 0)),(24,Q (ai ((sg 9).h 0).2 0)),(25,ba e5)]) (fun e5 ob1 ix2 h=>?_) (fun K4=>?_)
        ·skip
         exact bB<|af (aV cw I I bS (.tail _ (.head _)) (M I))<|bE I<|cm cw am I<|bm I<|dl 10 I<|aK<|so h▸gN (ts:=[K ae x1,ba e5]) (rvs:=[.cell 10 62,.tmp 11]) I I ⟨eY cw I I I,cH I,J⟩ ix2 I I
        ·skip
         refine aL I<|hM I<|dY h I (fun h=>?_) (fun h=>?_)
         ·refine cI h fun r7 q_r7 h=>cI h fun r8 q_r8 h=>?_
          refine eH 8 [tc (K ae x1),tc (kr aO ut (cA b) GZ over),tc (ml group),tc (yC r7.1),tc (tT [ba r8.1,ba r8.2]),tc (tT [ba r8.1,ba r8.2]),tc (ba r8.1),tc (ba r8.2)] [false,false,false,true,false,false,false,false] [fun _=>[bx ae 62 b1 x,bx ae 62 ((sg 9).h 0).2 x1,bx (rH ax (z10 ix1 ob)) 127 b ob,Z aG 3 (ix1.h 0).1 (ix1.h 0).2 ob.out.Tables,Z aF 71 (ix1.h 1).1 (ix1.h 1).2 ob.out.Joins,Z aG 3 (ix1.h 2).1 (ix1.h 2).2 ob.out.Keys,Z aU 73 (ix1.h 3).1 (ix1.h 3).2 ob.out.Aggs,Z ae 62 (ix1.h 4).1 (ix1.h 4).2 ob.out.Items,Z aG 3 (ix1.h 5).1 (ix1.h 5).2 ob.kinds,Z aG 3 (ix1.h 6).1 (ix1.h 6).2 ob.groups,bo kq dp (ix1.h 7).2 none (ix1.oss 0) ob.called,bo dO dp (ix1.h 8).2 none (ix1.oss 1) ob.alone,dE (fun y:Int=>ba y) jc (ix1.h 9).2 ob.behind],fun sg1=>[bx (rH ax [(10,Y ((sg1 3).h 0).1 ((sg1 3).h 0).2 r7.2.out.Tables.length),(11,Y ((sg1 3).h 1).1 ((sg1 3).h 1).2 r7.2.out.Joins.length),(16,Y ((sg1 3).h 2).1 ((sg1 3).h 2).2 r7.2.out.Keys.length),(17,Y ((sg1 3).h 3).1 ((sg1 3).h 3).2 r7.2.out.Aggs.length),(18,Y ((sg1 3).h 4).1 ((sg1 3).h 4).2 r7.2.out.Items.length),(22,Y ((sg1 3).h 5).1 ((sg1 3).h 5).2 r7.2.kinds.length),(23,Y ((sg1 3).h 6).1 ((sg1 3).h 6).2 r7.2.groups.length),(19,ak ((sg1 3).h 7).2),(20,ak ((sg1 3).h 8).2),(21,ak ((sg1 3).h 9).2)]) 127 b r7.2,Z aG 3 ((sg1 3).h 0).1 ((sg1 3).h 0).2 r7.2.out.Tables,Z aF 71 ((sg1 3).h 1).1 ((sg1 3).h 1).2 r7.2.out.Joins,Z aG 3 ((sg1 3).h 2).1 ((sg1 3).h 2).2 r7.2.out.Keys,Z aU 73 ((sg1 3).h 3).1 ((sg1 3).h 3).2 r7.2.out.Aggs,Z ae 62 ((sg1 3).h 4).1 ((sg1 3).h 4).2 r7.2.out.Items,Z aG 3 ((sg1 3).h 5).1 ((sg1 3).h 5).2 r7.2.kinds,Z aG 3 ((sg1 3).h 6).1 ((sg1 3).h 6).2 r7.2.groups,bo kq dp ((sg1 3).h 7).2 none ((sg1 3).oss 0) r7.2.called,bo dO dp ((sg1 3).h 8).2 none ((sg1 3).oss 1) r7.2.alone,dE (fun y:Int=>ba y) jc ((sg1 3).h 9).2 r7.2.behind,bx ae 62 ((sg 9).h 0).2 x1,bx ae 62 b1 x]] I mixed I I I I I
           ⟨⟨[⟨24,fun _=>Q (ai ((sg 9).h 0).2 0),none⟩],_,0,1,I,⟨(fun _=>I),J⟩,I,I,I,I,I,pF (fun sg1=>aC I (aV cw I I bS (.tail _ (.head _)) (M I))) (eD (fun sg1=>aC I (aV cw I I bS (.tail _ (.tail _ (.tail _ (.tail _ (.tail _ (.tail _ (.tail _ (.tail _ (.tail _ (.tail _ (.tail _ (.head _)))))))))))) (M I))))⟩,
           ⟨⟨[⟨7,fun _=>bn (rT (Dt (kr aO NM (cA b) NO over))) (),none⟩],_,0,0,I,⟨(fun _=>I),J⟩,I,I,I,I,I,fun _ sg1 _ _=>aC I (Gc Mk (M I))⟩,
           ⟨⟨[⟨1,fun _=>K rB group,none⟩],_,0,0,I,⟨(fun _=>I),J⟩,I,I,I,I,I,fun _ sg1 _ _=>aC I (jz I)⟩,
           ⟨⟨[⟨176,fun _=>kr aO NM (cA b) NO over,some 1⟩,⟨177,fun _=>K rB group,some 2⟩],_,I,⟨(fun _=>I),(fun _=>I),J⟩,I,I,I,fun sg1=>bw I (zy (mT (uY (args:=NM) (Ob:=cA b) (res:=NO) (f:=over) (x:=ob) (y:=((group):Bool)) (R:=r7) (i:=ix1) (xs:=[.tmp 177]) _ I (M I) q_r7 ⟨(M I),J⟩ (fun _=>I))))⟩,
           ⟨⟨[⟨175,fun _=>K ae x1,some 0⟩,⟨178,fun _=>K Ct r7.1,some 3⟩],_,1,1,I,⟨(fun _=>I),(fun _=>I),J⟩,I,I,I,I,I,fun _ sg1 _ _=>aC I (bL Tt (HQ _ _ q_r8) ⟨(M I),(M I),J⟩)⟩,
           ⟨⟨[⟨179,fun _=>tT [K aG r8.1,K aG r8.2],some 4⟩],_,1,1,I,⟨(fun _=>I),J⟩,I,I,I,I,I,fun _ sg1 _ _=>aC I (jz I)⟩,
           ⟨⟨[⟨174,fun _=>tT [K aG r8.1,K aG r8.2],some 5⟩],_,1,1,I,⟨(fun _=>I),J⟩,I,I,I,I,I,fun _ sg1 _ _=>aC I (yK I I)⟩,
           ⟨⟨[⟨174,fun _=>tT [K aG r8.1,K aG r8.2],some 5⟩],_,1,1,I,⟨(fun _=>I),J⟩,I,I,I,I,I,fun _ sg1 _ _=>aC I (yK I I)⟩,
           J⟩⟩⟩⟩⟩⟩⟩⟩ (fun sg1=>?_)
          refine(show RG _ _ _ _ [_,_,_,_,_,_,_,_,_,_,_,_,_] _ from ?_);refine lj I<|bN<|ah<|ah<|ah<|ah<|ah<|ah<|ah<|ah<|ah<|ah<|ah<|bz<|bb ?_;exact dh (K4 r8.2 r7.2 (sg1 3) h) (bI I)
         ·refine co ?_;exact dh (K4 e4 ob ix1 h) (bI I)
       ·skip
        refine aL I<|af (fh sD (.tail _ (.head _)) (M I))<|hM I<|dY h I (fun h=>?_) (fun h=>?_)
        ·refine cI h fun e6 q_e6 h=>cI h fun r9 q_r9 h=>?_
         refine eH 13 [tc (bn aG e.Tag),tc (ba e.Tag),tc (ve l c parts),tc (Q (cJ l ((0:Int).toNat*1+0))),tc (K ae e3),tc (ve l c parts),tc (Q (cJ l ((1:Int).toNat*1+0))),tc (K ae e6),tc (tT [K ae r9.1,ba r9.2]),tc (tT [K ae r9.1,ba r9.2]),tc (K ae r9.1),tc (ba r9.2),tc (tz)] [false,false,false,false,false,false,false,false,false,false,false,false,true] [fun _=>[bx ae 62 ((sg 9).h 0).2 r6.1,d7 ae 62 l c parts,bx ae 62 b1 x,bx (rH ax (z10 ix1 ob)) 127 b ob,Z aG 3 (ix1.h 0).1 (ix1.h 0).2 ob.out.Tables,Z aF 71 (ix1.h 1).1 (ix1.h 1).2 ob.out.Joins,Z aG 3 (ix1.h 2).1 (ix1.h 2).2 ob.out.Keys,Z aU 73 (ix1.h 3).1 (ix1.h 3).2 ob.out.Aggs,Z ae 62 (ix1.h 4).1 (ix1.h 4).2 ob.out.Items,Z aG 3 (ix1.h 5).1 (ix1.h 5).2 ob.kinds,Z aG 3 (ix1.h 6).1 (ix1.h 6).2 ob.groups,bo kq dp (ix1.h 7).2 none (ix1.oss 0) ob.called,bo dO dp (ix1.h 8).2 none (ix1.oss 1) ob.alone,dE (fun y:Int=>ba y) jc (ix1.h 9).2 ob.behind],fun sg2=>[bx ae 62 ((sg 9).h 0).2 r9.1,d7 ae 62 l c parts,bx ae 62 b1 x,bx (rH ax (z10 ix1 ob)) 127 b ob,Z aG 3 (ix1.h 0).1 (ix1.h 0).2 ob.out.Tables,Z aF 71 (ix1.h 1).1 (ix1.h 1).2 ob.out.Joins,Z aG 3 (ix1.h 2).1 (ix1.h 2).2 ob.out.Keys,Z aU 73 (ix1.h 3).1 (ix1.h 3).2 ob.out.Aggs,Z ae 62 (ix1.h 4).1 (ix1.h 4).2 ob.out.Items,Z aG 3 (ix1.h 5).1 (ix1.h 5).2 ob.kinds,Z aG 3 (ix1.h 6).1 (ix1.h 6).2 ob.groups,bo kq dp (ix1.h 7).2 none (ix1.oss 0) ob.called,bo dO dp (ix1.h 8).2 none (ix1.oss 1) ob.alone,dE (fun y:Int=>ba y) jc (ix1.h 9).2 ob.behind]] I mixed I I I I I
          ⟨⟨[⟨12,fun _=>bn cB e,none⟩],_,0,0,I,⟨(fun _=>I),J⟩,I,I,I,I,I,fun _ sg2 _ _=>aC I (yb td ox I I)⟩,
          ⟨⟨[⟨161,fun _=>bn aG e.Tag,some 0⟩],_,0,0,I,⟨(fun _=>I),J⟩,I,I,I,I,I,fun _ sg2 _ _=>aC I (ur dC I I)⟩,
          ⟨⟨[⟨16,fun _=>Q (Y l c parts.length),none⟩],_,0,0,I,⟨(fun _=>I),J⟩,I,I,I,I,I,fun _ sg2 _ _=>aC I (jz I)⟩,
          ⟨⟨[⟨163,fun _=>Q (Y l c parts.length),some 2⟩],_,0,0,I,⟨(fun _=>I),J⟩,I,I,I,I,I,eD (fun sg2=>aC I (bK sD cw (.tail _ (.head _)) (M I) hI q_e3))⟩,
          ⟨⟨[⟨164,fun _=>Q (cJ l ((0:Int).toNat*1+0)),some 3⟩],_,0,0,I,⟨(fun _=>I),J⟩,I,I,I,I,I,eD (fun sg2=>aC I (cS (r:=ae) (i:=(0:Int)) (foff:=0) cw I I bS I (.tail _ (.head _)) q_e3 (M I)))⟩,
          ⟨⟨[⟨16,fun _=>Q (Y l c parts.length),none⟩],_,0,0,I,⟨(fun _=>I),J⟩,I,I,I,I,I,fun _ sg2 _ _=>aC I (jz I)⟩,
          ⟨⟨[⟨166,fun _=>Q (Y l c parts.length),some 5⟩],_,0,0,I,⟨(fun _=>I),J⟩,I,I,I,I,I,eD (fun sg2=>aC I (bK sD cw (.tail _ (.head _)) (M I) hI q_e6))⟩,
          ⟨⟨[⟨167,fun _=>Q (cJ l ((1:Int).toNat*1+0)),some 6⟩],_,0,0,I,⟨(fun _=>I),J⟩,I,I,I,I,I,eD (fun sg2=>aC I (cS (r:=ae) (i:=(1:Int)) (foff:=0) cw I I bS I (.tail _ (.head _)) q_e6 (M I)))⟩,
          ⟨⟨[⟨162,fun _=>K aG e.Tag,some 1⟩,⟨165,fun _=>K ae e3,some 4⟩,⟨168,fun _=>K ae e6,some 7⟩],_,0,0,I,⟨(fun _=>I),(fun _=>I),(fun _=>I),J⟩,I,I,I,I,I,fun _ sg2 _ _=>aC I (bL Xy (SW _ _ _ q_r9) ⟨(M I),(M I),(M I),J⟩)⟩,
          ⟨⟨[⟨169,fun _=>tT [K ae r9.1,K aG r9.2],some 8⟩],_,0,0,I,⟨(fun _=>I),J⟩,I,I,I,I,I,fun _ sg2 _ _=>aC I (jz I)⟩,
          ⟨⟨[⟨160,fun _=>tT [K ae r9.1,K aG r9.2],some 9⟩],_,0,0,I,⟨(fun _=>I),J⟩,I,I,I,I,I,fun _ sg2 _ _=>aC I (yK I I)⟩,
          ⟨⟨[⟨160,fun _=>tT [K ae r9.1,K aG r9.2],some 9⟩],_,0,1,I,⟨(fun _=>I),J⟩,I,I,I,I,I,fun _ sg2 _ _=>aC I (yK I I)⟩,
          ⟨⟨[⟨24,fun _=>Q (ai ((sg 9).h 0).2 0),none⟩,⟨170,fun _=>K ae r9.1,some 10⟩],_,I,⟨(fun _=>I),(fun _=>I),J⟩,I,I,I,fun sg2=>bw I (dB cw I (wa am) I (M I) (M I))⟩,
          J⟩⟩⟩⟩⟩⟩⟩⟩⟩⟩⟩⟩⟩ (fun sg2=>?_)
         refine(show RG _ _ _ _ [_,_,_,_,_,_,_,_,_,_,_,_,_,_] _ from ?_);refine lj I<|bN<|dc<|aK<|bb<|bb<|bb<|bb<|bb<|bb<|bb<|bb<|bb<|bb<|bb<|bz<|bb ?_;exact dh (K3 r9.2 r9.1 h) (bI I)
        ·refine co<|dc<|aK<|bb<|bb<|bb<|bb<|bb<|bb<|bb<|bb<|bb<|bb<|bb<|bz<|bb ?_;exact dh (K3 r6.2 r6.1 h) (bI I)
    ·skip
     refine bY ?_;refine aR (NB (aA:=fun k i3 parts1 l15 c15 x2 ob2 ix3=>(2-i3=k)/\dv (bG fu) t leaf tags over group e k i3 parts1 x2 ob2=some R) (Of:=fun _ i3 parts1 l15 c15 x2 ob2 (ix3:OI)=>[d7 ae 62 l15 c15 parts1,bx ae 62 b1 x2,bx (rH ax (z10 ix3 ob2)) 127 b ob2,Z aG 3 (ix3.h 0).1 (ix3.h 0).2 ob2.out.Tables,Z aF 71 (ix3.h 1).1 (ix3.h 1).2 ob2.out.Joins,Z aG 3 (ix3.h 2).1 (ix3.h 2).2 ob2.out.Keys,Z aU 73 (ix3.h 3).1 (ix3.h 3).2 ob2.out.Aggs,Z ae 62 (ix3.h 4).1 (ix3.h 4).2 ob2.out.Items,Z aG 3 (ix3.h 5).1 (ix3.h 5).2 ob2.kinds,Z aG 3 (ix3.h 6).1 (ix3.h 6).2 ob2.groups,bo kq dp (ix3.h 7).2 none (ix3.oss 0) ob2.called,bo dO dp (ix3.h 8).2 none (ix3.oss 1) ob2.alone,dE (fun y:Int=>ba y) jc (ix3.h 9).2 ob2.behind]) (Gf:=fun _ i3 parts1 l15 c15 x2 ob2 ix3=>[(1,ml group),(3,bn (rT ((gX aO AU Fk (fun(x:ap)=>leaf x)))) ()),(4,bn (rT (Q (ai b 0))) ()),(6,R7 178 [bn aY t,bn (rT ((gX aO AU Fk (fun(x:ap)=>leaf x)))) (),bn (rT (Q (ai b 0))) (),bn (rT (AZ (fun y:Int=>ba y) qW tags)) ()] [bn (rT (Dt (kr aO ut (cA b) GZ over))) ()] bslf),(7,bn (rT (Dt (kr aO ut (cA b) GZ over))) ()),(10,Q (ai b1 0)),(12,bn cB e),(15,ba ((fP tags e.Tag).getD (0:Int))),(16,ve l15 c15 parts1),(86,K G0 ([e.L,e.R])),(87,ba (i3:Int))]) (fun i3 parts1 l15 c15 x2 ob2 ix3 h=>?_) (fun k1 ih1 i3 parts1 l15 c15 x2 ob2 ix3 h=>?_) 2 0 ([]:List aD) none 0 qX s ix ⟨I,h⟩) (bI I)
     ·obtain⟨V,h⟩:=h
      refine gR<|bB<|af (jn (M I) hI)<|ci<|aM<|qz (M I) (Qz V)<|gZ<|aH<|aH<|dK ?_;exact dh (K1 parts1 l15 c15 x2 ob2 ix3 h) (bI I)
     ·obtain⟨V,h⟩:=h
      refine gR<|bB<|af (jn (M I) hI)<|ci<|aM<|qy (M I) (Qy V)<|nw<|aM<|av<|bB<|cI h fun e8 q_e8 h=>af (xj C7 dC I I (M I) (M I) q_e8)<|bH I<|bJ<|bE I<|af (jn (M I) hI) ?_;refine dY h I (fun h=>?_) (fun h=>?_)
      ·refine gZ<|aH<|cg I<|aH<|aH<|dK ?_;exact dh (K1 parts1 l15 c15 x2 ob2 ix3 h) (bI I)
      ·refine nw<|bB<|af (Gd Mj (M I))<|bE I<|bE I<|bE I<|aI I (eC I)<|aI I (oK I)<|jp I<|cI h fun r10 q_r10 h=>nt (zy (mT (EJ (xs:=[.tmp 94,.tmp 99]) (ts:=[ba e8,ml (group&&(((fP tags e.Tag).getD (0:Int))==(0:Int)))]) (cA b ob2 ix3) _ I (M I) (cp:= .tmp 6) (M I) Uc (ihR b ix3 bslf ob2 _ _ _ _ _ _ q_r10) ⟨(M I),(M I),J⟩ (fun _=>I)))) I fun i4=>?_;refine(show RG _ _ _ _ [_,_,_,_,_,_,_,_,_,_,_,_,_] ((100,tT [K ae r10.1,ba r10.2.1])::_)from ?_);refine bE I<|dX I I<|dX I I<|aW cw ei I fun b4=>cm cw am I<|aX 19 I<|bH I<|bJ<|bE I<|lk I<|dY h I (fun h=>?_) (fun h=>?_)
       ·exact bB<|dM cw I<|bE I<|zt<|cm cw am I<|bm I<|aw<|dP<|aw<|dP<|dl 10 I<|bz<|aK<|so h▸gN (ts:=[K ae r10.1,ba r10.2.1]) (rvs:=[.cell 10 62,.tmp 11]) I I ⟨eY cw I I I,cH I,J⟩ i4 I I
       ·refine nw<|bg<|bE I<|dM cw I<|af (aZ (r:=ae) (ys:=[r10.1]) (xs:=[.tmp 108]) sD cw I I I I I ⟨(M I),J⟩)<|zr<|cI h fun parts2 q_parts2 h=>fN cw I I I I sD I I (M I) (M I) q_parts2 fun l23 c23=>lj I<|bN<|bR<|aJ<|bg<|af (uG (OD V (by decide)) (M I) hI)<|bE I<|bN<|bz<|bz<|bz<|bz<|bz<|bz<|bz ?_;refine bz<|bz<|bz<|bz<|bb<|bb ?_;exact bu (aR (ih1 (i3+1) parts2 l23 c23 x2 r10.2.2 i4 ⟨OC V,h⟩) (bI I))
def VI(b:Nat)(ix:OI)(bslf:Nat) s t leaf tags over i group{R}(h:pl s t leaf tags over i group=some R):dZ aO 178 [ba i,ml group,bn aY t,bn (rT ((gX aO AU Fk (fun(x:ap)=>leaf x)))) (),bn (rT (Q (ai b 0))) (),bn (rT (AZ (fun y:Int=>ba y) qW tags)) (),R7 178 [bn aY t,bn (rT ((gX aO AU Fk (fun(x:ap)=>leaf x)))) (),bn (rT (Q (ai b 0))) (),bn (rT (AZ (fun y:Int=>ba y) qW tags)) ()] [bn (rT (Dt (kr aO ut (cA b) GZ over))) ()] bslf,bn (rT (Dt (kr aO ut (cA b) GZ over))) ()] (cA b s ix) (fun _:OI=>tT [K ae R.1,ba R.2.1]) (fun j=>cA b R.2.2 j):=Q7 gx b ix bslf s t leaf tags over i group h

end Go.Proofs.YthbdkceckjihgaaGreatDoor

