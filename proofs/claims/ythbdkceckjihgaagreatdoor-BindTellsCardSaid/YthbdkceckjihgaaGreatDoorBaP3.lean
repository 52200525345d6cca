/- cH of this claim: P3. -/
import Derived.Test.YthbdkceckjihgaaGreatDoorBaT
import Derived.Test.YthbdkceckjihgaaGreatDoorBaP2
set_option linter.all false
namespace Go.Proofs.YthbdkceckjihgaaGreatDoor
open Go
set_option maxRecDepth 100000

set_option maxHeartbeats 4000000 in
def Nu(b:Nat)(ix:OI) s{R}(h:lW s=some R):dB aH 93 [tV (aj b 0)] (ci b s ix) (fun _:OI=>aO R.1) (fun j=>ci b R.2 j):=by
 refine dB.of Tryz.func93 I I I fun w0 S0=>?_;refine(show CG _ _ _ [bx (rH aq [(10,M (ix.h 0).1 (ix.h 0).2 s.out.Tables.length),(11,M (ix.h 1).1 (ix.h 1).2 s.out.Joins.length),(16,M (ix.h 2).1 (ix.h 2).2 s.out.Keys.length),(17,M (ix.h 3).1 (ix.h 3).2 s.out.Aggs.length),(18,M (ix.h 4).1 (ix.h 4).2 s.out.Items.length),(22,M (ix.h 5).1 (ix.h 5).2 s.kinds.length),(23,M (ix.h 6).1 (ix.h 6).2 s.groups.length),(19,ak (ix.h 7).2),(20,ak (ix.h 8).2),(21,ak (ix.h 9).2)]) 127 b s,Z aC 3 (ix.h 0).1 (ix.h 0).2 s.out.Tables,Z aD 71 (ix.h 1).1 (ix.h 1).2 s.out.Joins,Z aC 3 (ix.h 2).1 (ix.h 2).2 s.out.Keys,Z aN 73 (ix.h 3).1 (ix.h 3).2 s.out.Aggs,Z aa 62 (ix.h 4).1 (ix.h 4).2 s.out.Items,Z aC 3 (ix.h 5).1 (ix.h 5).2 s.kinds,Z aC 3 (ix.h 6).1 (ix.h 6).2 s.groups,bj ib cR (ix.h 7).2 none (ix.oss 0) s.called,bj dj cR (ix.h 8).2 none (ix.oss 1) s.alone,da (fun y:Int=>aO y) gb (ix.h 9).2 s.behind] _ from ?_);refine aU<|bJ<|bG<|aG I<|d (bo (Y I))<|bz 24 pR I<|fC (cZ cF I (sv (hs' :=[(10,M (ix.h 0).1 (ix.h 0).2 s.out.Tables.length),(11,M (ix.h 1).1 (ix.h 1).2 s.out.Joins.length),(16,M (ix.h 2).1 (ix.h 2).2 s.out.Keys.length),(17,M (ix.h 3).1 (ix.h 3).2 s.out.Aggs.length),(18,M (ix.h 4).1 (ix.h 4).2 s.out.Items.length),(22,M (ix.h 5).1 (ix.h 5).2 s.kinds.length),(23,M (ix.h 6).1 (ix.h 6).2 s.groups.length),(19,ak (ix.h 7).2),(20,ak (ix.h 8).2),(21,ak (ix.h 9).2)]) lK ⟨.inr ⟨I,I⟩,.inr ⟨I,I⟩,.inr ⟨I,I⟩,.inr ⟨I,I⟩,.inr ⟨I,I⟩,.inr ⟨I,I⟩,.inr ⟨I,I⟩,.inr ⟨I,I⟩,.inr ⟨I,I⟩,.inr ⟨I,I⟩,Q⟩ I) I (Y I) hI) fun i=>?_;refine(show RG _ _ _ _ [_,_,_,_,_,_,_,_,_,_,_] _ from ?_);refine bG<|aG I<|a8 I<|d (bo (Y I))<|bz 1 jl I<|bz 4 HK I<|d (bm (r:=rH aq [(10,M (ix.h 0).1 (ix.h 0).2 s.out.Tables.length),(11,M (ix.h 1).1 (ix.h 1).2 s.out.Joins.length),(16,M (ix.h 2).1 (ix.h 2).2 s.out.Keys.length),(17,M (ix.h 3).1 (ix.h 3).2 s.out.Aggs.length),(18,M (ix.h 4).1 (ix.h 4).2 s.out.Items.length),(22,M (ix.h 5).1 (ix.h 5).2 s.kinds.length),(23,M (ix.h 6).1 (ix.h 6).2 s.groups.length),(19,ak (ix.h 7).2),(20,ak (ix.h 8).2),(21,ak (ix.h 9).2)]) (x:=({s with at_:=(0:Int)}:an)) FH I I (nh (ed fa wd)) (.head _) (Y I))<|ck h fun r q_r h=>km (fT (xs:=[.tmp 6,.tmp 11]) (ts:=[tV (aj b 0),V eT ((({s with at_:=(0:Int)}:an).from_).From)]) (ci b ({s with at_:=(0:Int)}:an) ix) _ I KK (H0 b ix ({s with at_:=(0:Int)}:an) _ q_r) ⟨(Y I),(Y I),Q⟩ (fun _=>I)) I fun i1=>?_;refine(show RG _ _ _ _ [_,_,_,_,_,_,_,_,_,_,_] ((12,aO r.1)::_)from ?_);exact aR I<|so h▸de I i1 I I (fun _ _ h=>h)

def E8 tag{R}(h:ta tag=some R):cw aH 119 [aO tag] (aO R):=by
 refine cX Tryz.func119 I<|aU<|bJ<|bG<|aF<|ai<|aG I<|eN I<|a8 I<|aK I (cO I)<|aK I (lF I)<|gU I<|bk I<|m3 h I (fun h=>?_) (fun h=>?_)
 ·exact aU<|ev<|cz<|so h▸aA I I
 ·refine aG I<|d (e9 (Y I) hI)<|a8 I<|aB I (cO I)<|aB I (fun K=>jg (bI I K) hI)<|fF I<|bk I<|m3 h I (fun h=>?_) (fun h=>?_)
  ·exact aU<|ev<|cz<|so h▸aA I I
  ·refine aG I<|d (e9 (Y I) hI)<|a8 I<|aB I (cO I)<|aB I (fun K=>jg (bI I K) hI)<|fF I<|bk I<|m3 h I (fun h=>?_) (fun h=>?_)
   ·exact aU<|ev<|cz<|so h▸aA I I
   ·exact bA<|bl<|av<|aU<|ev<|so h▸aA I I

def JP n{R}(h:wh n=some R):cw aH 155 [V bg n] (ia R):=by
 refine cX Tryz.func155 I<|aU<|cY I<|bQ<|bG<|aZ<|bN mh gF cF I<|bG<|ai<|aU<|eN I<|bk I<|m3 h I (fun h=>?_) (fun h=>?_)
 ·exact aU<|bN w3 nR mq I<|eD h KG (E1 _) (dc I) fun r h=>a8 I<|aB I (dP pS jC I I)<|aB I (du cF I I)<|aB I (lF I)<|fF I<|aR I<|cz<|so h▸aA I I
 ·refine aU<|eN I<|bk I<|m3 h I (fun h=>?_) (fun h=>?_)
  ·exact aU<|bN w3 nR mq I<|d (bV mq ET ny I)<|d (EI Fa (Y I) (Y I))<|a8 I<|aB I (dP pS jC I I)<|aB I (du cF I I)<|aB I (fun K=>e9 (bI I K) hI)<|fF I<|a8 I<|aB I (dP pS jC I I)<|aB I (du cF I I)<|aB I (fun K=>fl (bI I K) hI)<|fF I<|aR I<|cz<|so h▸aA I I
  ·exact bA<|bl<|av<|aU<|bN w3 nR mq I<|d (bV mq ET ny I)<|d (EI Fa (Y I) (Y I))<|a8 I<|aB I (dP pS jC I I)<|aB I (du cF I I)<|aB I (lF I)<|fF I<|aR I<|so h▸aA I I

def J2 e{R}(h:wg e=some R):cw aH 114 [V aa e] (tT [lE R.1,ia R.2]):=by
 refine cX Tryz.func114 I<|aU<|cY I<|ov aC<|bQ<|bG<|aU<|bS false aC 3<|d (bC tw)<|bS false aC 3<|d (bC tw)<|bG<|aZ<|bN s5 lP C0 I<|cu o7 I<|d (bt hI)<|bu ?_;refine av<|ai<|aQ (k:=15) I fun hN=>bq<|fg ?_;refine aE (yz (aw:=fun ls i all l c open1 l1 c1=>(e.Nodes.drop i=ls)/\ld ls i all open1=some R) (Of:=fun _ i all l c open1 l1 c1=>[eg aC 3 l c all,eg aC 3 l1 c1 open1]) (Gf:=fun _ i all l c open1 l1 c1=>[(4,oq l c all),(5,oq l1 c1 open1),(15,fO (bg) e.Nodes),(16,jf e.Nodes),(17,aO (i:Int))]) (fun i all l c open1 l1 c1 h=>?_) (fun e1 tl ih i all l c open1 l1 c1 h=>?_) e.Nodes 0 sM none 0 sM none 0 ⟨I,h⟩) (be I)
 ·obtain⟨A,h⟩:=h
  refine dr A I<|av<|aG I<|a8 I<|d (eK eu (.tail _ (.head _)) (Y I))<|eN I<|a8 I<|aB I (cO I)<|aB I (fun K=>eK eu (.head _) (bI I K))<|aB I (fun K=>jg (bI I K) hI)<|fF I ?_;exact gJ I<|aR I<|nt<|fN 4 I<|fN 84 I<|fN 2 I<|je 2 I<|aI<|aI<|so h▸dO I I I
 ·obtain⟨A,h⟩:=h
  refine dq A I<|aF<|ai<|aG I<|eM o7 fP I (dv A)<|aT fP kn I fun b=>gJ I<|bX fP al I<|aP 7 I<|bG<|aF ?_;refine aL<|bN mh gF cF I<|eD h KR (E8 _) (dc I) fun r h=>bk I<|aZ<|a8 I<|d (fl (Y I) hI)<|a8 I<|aK I (cO I)<|aK I (cO I)<|aK I (fun K=>eK eu (.tail _ (.head _)) (bI I K))<|aK I (fun K=>fz (bI I K) (bI I K))<|gU I<|a8 I<|ck h fun t q_t h=>aK I (fun K=>o9 fP I I) ?_
  obtain⟨r1,h1t,h0t⟩:=og q_t
  have q_r1g:=fun D=>(h1t D).1
  refine aK I (fun K=>bp Ol (JP _ (q_r1g K)) ⟨(bI I K),Q⟩)<|aK I (qC I)<|d (cP (Y I) (fun D=>(bI I (lD D))) (fun D=>(h1t D).2) h0t)<|cE h I (fun h=>?_) (fun h=>?_)
  ·exact aU<|ov aC<|bQ<|dh<|ah<|cz<|ah<|cz<|aI<|aI<|so h▸dO I I I
  ·refine ip<|aG I<|a8 I<|d (eK eu (.tail _ (.head _)) (Y I))<|a8 I<|d (j9 (Y I) (Y I))<|ck h fun y q_y h=>d (mw eu cF I (.tail _ (.head _)) (Y I) (Y I) q_y)<|lw (.tail _ (.head _)) q_y fun hv=>bk I<|aU<|d (nr (r:=aC) (ys:=[hJ,hJ]) (xs:=[.const (.int .i64 (-1)),.const (.int .i64 (-1))]) xa cF I Ap I I ⟨hI,hI,Q⟩)<|aT (r:=Ah) (x:=(List.replicate 2 (0:Int))) Ap (fun _=>Cr (r:=aC) 2 (fun _=>I) _) I fun b1=>bX Ap al I<|bG<|aU ?_;refine a8 I<|bk I<|aZ<|a8 I<|d (EH eu (.tail _ (.tail _ (.head _))) q_y (Y I))<|d (bt hI)<|bG<|ai ?_
   have hN1:=hv.2
   refine bq<|jd<|jd ?_;refine aE (od (aw:=fun ls1 i1 first at1=>(y.drop i1=ls1)/\nU (ld tl) i e1 all open1 r ls1 i1 first at1=some R) (Of:=fun _ i1 first at1=>[eg aC 3 l c all,eg aC 3 l1 c1 open1,bx Ah 80 b1 at1]) (Gf:=fun _ i1 first at1=>[(4,oq l c all),(5,oq l1 c1 open1),(6,aO (i:Int)),(7,bb bg e1),(8,aO r),(10,tV (aj b1 0)),(11,aO first),(15,fO (bg) e.Nodes),(16,jf e.Nodes),(17,aO (i:Int)),(46,tV (jr 1 l1 c1 (IntKind.i64.wrap ((open1.length:Int)-r)).toNat y.length)),(47,jf y),(48,aO (i1:Int))]) (fun i1 first at1 h=>?_) (fun e2 tl1 ih1 i1 first at1 h=>?_) y 0 (i:Int) ([hJ,hJ]) ⟨I,h⟩) (be I)
   ·obtain⟨hx1,h⟩:=h
    refine dr hx1 I<|av<|aZ<|d (bm Ap I I bZ (.tail _ (.tail _ (.head _))) (Y I))<|bN uC pN cF I<|bN uB pM cF I<|d (nr (r:=aC) (ys:=[e1.L,e1.R]) (xs:=[.tmp 65,.tmp 67]) xa cF I Ap I I ⟨(Y I),(Y I),Q⟩)<|d (wY Pp (Y I) (Y I))<|bu ?_;refine av<|m3 h I (fun h=>?_) (fun h=>?_)
    ·exact aU<|ov aC<|bQ<|dh<|ah<|cz<|ah<|cz<|aI<|aI<|aI<|so h▸dO I I I
    ·refine ip<|aG I<|a8 I<|d (aW (r:=aC) (ys:=[first]) (xs:=[.tmp 71]) eu cF I I I I I ⟨(Y I),Q⟩)<|ck h fun all1 q_all1 h=>dH cF I I I I eu I I (Y I) (Y I) q_all1 fun l2 c2=>bk I<|aL<|a8 I<|a8 I<|d (eK eu (.tail _ (.head _)) (Y I))<|a8 I<|d (j9 (Y I) (Y I))<|ck h fun y1 q_y1 h=>d (oD eu cF I (.tail _ (.head _)) (Y I) (Y I) q_y1)<|a8 I<|d (aW (r:=aC) (ys:=[(i:Int)]) (xs:=[.tmp 80]) eu cF I I I I I ⟨(Y I),Q⟩)<|cU<|Bk q_y1 ?_;refine ck h fun open2 q_open2 h=>dH cF I I I I eu I I (Y I) (Y I) q_open2 fun l3 c3=>gJ I<|bu<|db A hN I<|fY<|aI<|dp ?_;exact aM (aE (ih (i+1) all1 l2 c2 open2 l3 c3 ⟨cW A,h⟩) (be I))
   ·obtain⟨hx1,h⟩:=h
    refine dq hx1 I<|aF<|ai<|aG I<|d (sx eu cF I (.tail _ (.head _)) q_y (Y I) (Y I) (dv hx1))<|d (cK (r:=aC) (i:=((IntKind.i64.wrap ((open1.length:Int)-r))+(i1:Int))) (foff:=0) cF I I bZ I (.tail _ (.head _)) (sS q_y (dv hx1)).1 (Y I))<|gJ I<|bk I<|ck h fun e3 q_e3 h=>ck h fun e4 q_e4 h=>ck h fun ar q_ar h=>?_
    refine eh 10 [tc (aO (i1:Int)),tc (aO e2),tc (aO first),tc (oq l c all),tc (aO e2),tc (tV (cv l (e2.toNat*1+0))),tc (aO e3),tc (aO (min first e3)),tc (tV (aj b1 ((i1:Int).toNat*1))),tc (oX)] [false,false,false,false,false,false,false,false,false,true] [fun _=>[eg aC 3 l c all,eg aC 3 l1 c1 open1,bx Ah 80 b1 at1],fun sg=>[bx Ah 80 b1 ar,eg aC 3 l c all,eg aC 3 l1 c1 open1]] I mixed I I I I I
     ⟨⟨[⟨12,fun _=>V aC (i1:Int),none⟩],_,0,0,I,⟨(fun _=>I),Q⟩,I,I,I,I,I,fun _ sg _ _=>h2 I (fh I)⟩,
     ⟨⟨[⟨13,fun _=>V aC e2,none⟩],_,0,0,I,⟨(fun _=>I),Q⟩,I,I,I,I,I,fun _ sg _ _=>h2 I (fh I)⟩,
     ⟨⟨[⟨11,fun _=>V aC first,none⟩],_,0,1,I,⟨(fun _=>I),Q⟩,I,I,I,I,I,fun _ sg _ _=>h2 I (fh I)⟩,
     ⟨⟨[⟨4,fun _=>tV (M l c all.length),none⟩],_,0,1,I,⟨(fun _=>I),Q⟩,I,I,I,I,I,fun _ sg _ _=>h2 I (fh I)⟩,
     ⟨⟨[⟨13,fun _=>V aC e2,none⟩],_,0,1,I,⟨(fun _=>I),Q⟩,I,I,I,I,I,fun _ sg _ _=>h2 I (fh I)⟩,
     ⟨⟨[⟨56,fun _=>tV (M l c all.length),some 3⟩,⟨57,fun _=>V aC e2,some 4⟩],_,0,1,I,⟨(fun _=>I),(fun _=>I),Q⟩,I,I,I,I,I,nA (fun sg=>h2 I (bK eu cF (.head _) (Y I) (Y I) q_e3)) (d6 (fun sg=>h2 I (bK eu cF (.tail _ (.head _)) (Y I) (Y I) q_e3)))⟩,
     ⟨⟨[⟨58,fun _=>tV (cv l (e2.toNat*1+0)),some 5⟩],_,0,1,I,⟨(fun _=>I),Q⟩,I,I,I,I,I,nA (fun sg=>h2 I (cK (r:=aC) (i:=e2) (foff:=0) cF I I bZ I (.head _) q_e3 (Y I))) (d6 (fun sg=>h2 I (cK (r:=aC) (i:=e2) (foff:=0) cF I I bZ I (.tail _ (.head _)) q_e3 (Y I))))⟩,
     ⟨⟨[⟨55,fun _=>V aC first,some 2⟩,⟨59,fun _=>V aC e3,some 6⟩],_,0,1,I,⟨(fun _=>I),(fun _=>I),Q⟩,I,I,I,I,I,fun _ sg _ _=>h2 I (ji (Y I) (Y I))⟩,
     ⟨⟨[⟨10,fun _=>tV (aj b1 0),none⟩,⟨53,fun _=>V aC (i1:Int),some 0⟩],_,0,0,I,⟨(fun _=>I),(fun _=>I),Q⟩,I,I,I,I,I,d6 (fun sg=>h2 I (kq xa cF (.tail _ (.tail _ (.head _))) (Y I) (Y I) q_e4))⟩,
     ⟨⟨[⟨61,fun _=>tV (aj b1 ((i1:Int).toNat*1)),some 8⟩,⟨54,fun _=>V aC e2,some 1⟩],_,I,⟨(fun _=>I),(fun _=>I),Q⟩,I,I,I,fun sg=>bB I (EffOK.fr2 (DQ cF I q_e4 (so q_ar) (Y I) (Y I)))⟩,
     Q⟩⟩⟩⟩⟩⟩⟩⟩⟩⟩ (fun sg=>?_)
    refine(show RG _ _ _ _ [_,_,_] _ from ?_);refine gJ I<|bu<|db hx1 hN1 I<|fY<|fY ?_;exact aM (aE (ih1 (i1+1) (min first e3) ar ⟨cW hx1,h⟩) (be I))

def A5 e{R}(h:nV e=some R):cw aH 59 [V aa e] (aO R):=by
 refine cX Tryz.func59 I<|aU<|cY I<|bJ<|bG<|aZ<|cN ce I<|eD h OK (J2 _) (dc I) fun r h=>a8 I<|dx I I<|dx I I<|gJ I<|bk I<|aG I<|d (iz (Y I)) ?_;refine cE h I (fun h=>?_) (fun h=>?_)
 ·exact aU<|ev<|ah<|so h▸aA I I
 ·exact ip<|aU<|ev<|so h▸aA I I

def Mj(l:Option Nat)(c:Nat) s{R}(h:kW s=some R):dB aH 116 [oq l c s] [eg aC 3 l c s] (fun i:OI=>oq (i.h 0).1 (i.h 0).2 R) (fun i=>[eg aC 3 (i.h 0).1 (i.h 0).2 R]):=by
 refine dB.of Tryz.func116 I I I fun w0 S0=>aU<|bS false aC 3<|d (bC tw)<|bG<|aZ<|a8 I<|d (eK eu (.tail _ (.head _)) (Y I))<|d (fl (Y I) hI)<|cE h I (fun h=>?_) (fun h=>?_)
 ·exact aG I<|aR I<|ah<|aI<|so h▸de I (oi l c) I I (fun _ _ h=>h)
 ·refine ip<|aZ<|bJ<|bG<|ai<|iY (.tail _ (.head _)) fun hN=>bq<|qg ?_;refine aE (eH (aw:=fun ls i=>(s.drop i=ls)/\gM s ls i=some R) (Of:=fun _ i=>[eg aC 3 l c s]) (Gf:=fun _ i=>[(0,oq l c s),(3,aO (i:Int))]) (fun i h=>?_) (fun e tl ih i h=>?_) (s.drop (1)) 1 ⟨I,h⟩) (be I)
  ·obtain⟨A,h⟩:=h
   exact dg<|aZ<|a8 I<|a8 I<|d (eK eu (.head _) (Y I))<|ou I<|bG<|ly (Y I) (H6 A)<|dU<|au<|au<|cj<|av<|aG I<|aR I<|so h▸de I (oi l c) I I (fun _ _ h=>h)
  ·obtain⟨A,h⟩:=h
   refine dg<|aZ<|a8 I<|a8 I<|d (eK eu (.head _) (Y I))<|ou I<|bG<|lx (Y I) (Fc A)<|ip<|aF<|ai<|aF<|ck h fun e1 q_e1 h=>?_
   refine fX (ts:=[_,_,_,_,_,_,_,_,_,_]) mixed I I
    ⟨iQ I I,
    ⟨iQ I I,
    ⟨ij 16 0 17 1 I I I (bK eu cF (.head _) (Y I) (Y I) (dv A)),
    ⟨gH 18 2 I I (cK (r:=aC) (i:=(i:Int)) (foff:=0) cF I I bZ I (.head _) (dv A) (Y I)),
    ⟨iQ I I,
    ⟨iQ I I,
    ⟨gH 21 5 I I (j9 (Y I) hI),
    ⟨ij 20 4 22 6 I I I (bK eu cF (.head _) (Y I) (Y I) q_e1),
    ⟨gH 23 7 I I (cK (r:=aC) (i:=(IntKind.i64.wrap ((i:Int)-(1:Int)))) (foff:=0) cF I I bZ I (.head _) q_e1 (Y I)),
    ⟨ij 19 3 24 8 I I I (mg (Y I) (Y I)),
    Q⟩⟩⟩⟩⟩⟩⟩⟩⟩⟩ ?_
   refine av<|m3 h I (fun h=>?_) (fun h=>?_)
   ·refine aG I<|a8 I<|ck h fun y q_y h=>d (mw eu cF I (.head _) (Y I) (Y I) q_y)<|lw (.head _) q_y fun hv=>bk I<|aZ<|bJ<|bG<|ai<|bq ?_;refine aE (Fn (aw:=fun k1 i1 s1 k=>(y.length-i1=k1)/\fm i y k1 i1 s1 k=some R) (Of:=fun _ i1 s1 k=>[eg aC 3 l c s1]) (Gf:=fun _ i1 s1 k=>[(0,oq l c s1),(3,aO k),(4,tV (jr 1 l c (i:Int).toNat y.length)),(5,aO (i1:Int))]) (fun i1 s1 k h=>?_) (fun k2 ih1 i1 s1 k h=>?_) (y.length-1) 1 s (i:Int) ⟨I,h⟩) (be I)
    ·obtain⟨hx1,h⟩:=h
     refine dg<|aZ<|a8 I<|a8 I<|d (EG eu hv.1 (Y I))<|ou I<|bG<|ly (Y I) (Hs hx1)<|dU<|au<|au<|cj<|av<|aG I<|a8 I<|ck h fun y1 q_y1 h=>d (mw eu cF I (.head _) (Y I) (Y I) q_y1)<|lw (.head _) q_y1 fun hv1=>ck h fun cl q_cl h=>?_;exact Gz cF I I eu (fun _=>I) I q_y1 (Y I) (so q_cl)<|fV (zQ q_y1 (so q_cl)) 0 I<|fV (zQ q_y1 (so q_cl)) 54 I<|bG<|aG I<|a8 I<|ck h fun y2 q_y2 h=>d (oD eu cF I (.head _) (Y I) (Y I) q_y2)<|Bk q_y2<|aR I<|cz<|ah<|cz<|so h▸de I (oi l c) I I (fun _ _ h=>h)
    ·obtain⟨hx1,h⟩:=h
     refine dg<|aZ<|a8 I<|a8 I<|d (EG eu hv.1 (Y I))<|ou I<|bG<|lx (Y I) (Hr hx1)<|ip<|aF<|ai<|aF<|ck h fun e3 q_e3 h=>ck h fun e4 q_e4 h=>?_
     refine fX (ts:=[_,_,_,_,_,_,_,_,_,_]) mixed I I
      ⟨iQ I I,
      ⟨iQ I I,
      ⟨ij 35 0 36 1 I I I (oZ eu cF I (.head _) (u5 q_y) (Y I) (Y I) q_e3),
      ⟨gH 37 2 I I (cK (r:=aC) (i:=((i:Int)+(i1:Int))) (foff:=0) cF I I bZ I (.head _) (rF q_e3).2.2 (Y I)),
      ⟨iQ I I,
      ⟨iQ I I,
      ⟨gH 40 5 I I (j9 (Y I) hI),
      ⟨ij 39 4 41 6 I I I (oZ eu cF I (.head _) (u5 q_y) (Y I) (Y I) q_e4),
      ⟨gH 42 7 I I (cK (r:=aC) (i:=((i:Int)+(IntKind.i64.wrap ((i1:Int)-(1:Int))))) (foff:=0) cF I I bZ I (.head _) (rF q_e4).2.2 (Y I)),
      ⟨ij 38 3 43 8 I I I (eJ (Y I) (Y I)),
      Q⟩⟩⟩⟩⟩⟩⟩⟩⟩⟩ ?_
     refine av<|m3 h I (fun h=>?_) (fun h=>?_)
     ·refine aG I<|a8 I<|a8 I<|a8 I<|ck h fun e5 q_e5 h=>d (oZ eu cF I (.head _) (u5 q_y) (Y I) (Y I) q_e5)<|d (cK (r:=aC) (i:=((i:Int)+(i1:Int))) (foff:=0) cF I I bZ I (.head _) (rF q_e5).2.2 (Y I))<|ck h fun e6 q_e6 h=>d (bK eu cF (.head _) (Y I) (Y I) q_e6)<|ck h fun st q_st h=>lZ cF I al I q_e6 (so q_st) (Y I) (Y I)<|fV (eI (so q_st)) 0 I<|fV (eI (so q_st)) 45 I<|bG<|aL<|a8 I<|d (iA (Y I) hI)<|gJ I<|bu<|bl<|av ?_;refine aL<|a8 I<|d (pF (F6 hx1 (M5 hv.2)) (Y I) hI)<|gJ I<|bu ?_;exact aM (aE (ih1 (i1+1) st (IntKind.i64.wrap (k+(1:Int))) ⟨F5 hx1,h⟩) (be I))
     ·refine bA<|bl<|av<|aL<|a8 I<|d (pF (F6 hx1 (M5 hv.2)) (Y I) hI)<|gJ I<|bu ?_;exact aM (aE (ih1 (i1+1) s1 k ⟨F5 hx1,h⟩) (be I))
   ·refine bA<|Kr A hN I ?_;exact aM (aE (ih (i+1) ⟨cW A,h⟩) (be I))

def Je e{R}(h:zL e=some R):fL aH 60 [V aa e] false aC 3 R:=by
 refine fL.of Tryz.func60 I I I fun w0 S0=>aU<|cY I<|bS false aC 3<|d (bC tw)<|bG<|aZ<|cN ce I<|eD h Kc (A5 _) (dc I) fun r h=>ic I<|cE h I (fun h=>?_) (fun h=>?_)
 ·exact aU<|bS false aC 3<|d (bC tw)<|dh<|ah<|so h▸jp I I
 ·refine ip<|aU<|bS false aC 3<|d (bC tw)<|bG<|aZ<|bN s5 lP C0 I<|cu o7 I<|d (bt hI)<|bG<|ai<|aQ (k:=10) I fun hN=>bq<|fg<|qg ?_;refine aE (jO (aw:=fun ls i out l c=>(e.Nodes.drop i=ls)/\nk ls out=some R) (Of:=fun _ i out l c=>[eg aC 3 l c out]) (Gf:=fun _ i out l c=>[(3,oq l c out),(10,fO (bg) e.Nodes),(11,jf e.Nodes),(12,aO (i:Int))]) (fun i out l c h=>?_) (fun e1 tl ih i out l c h=>?_) e.Nodes 0 sM none 0 ⟨I,h⟩) (be I)
  ·obtain⟨A,h⟩:=h
   refine dr A I<|av<|aG I<|ck h fun M3 q_srt h=>?_;refine Ir (n:=out.length) (ys:=M3) yX ?_ OJ ?_ ?_ ?_ ?_ ?_
   ·rfl
   ·exact q_srt
   ·exact(Y I)
   ·rfl
   ·rfl
   intro hl
   refine Cv hl 3 I<|Cv hl 25 I<|bG<|aG I<|ck h fun r1 q_r1 h=>uO [eg aC 3 l c M3] _ I OH (Mj l c _ q_r1) ⟨(Y I),Q⟩ I fun i1=>?_;refine(show RG _ _ _ _ [_] ((28,oq (i1.h 0).1 (i1.h 0).2 r1)::_)from ?_);exact aR I<|so h▸jp I I
  ·obtain⟨A,h⟩:=h
   refine dq A I<|aF<|ai<|aU<|eM o7 fP I (dv A)<|aT fP kn I fun b=>bX fP al I<|aP 5 I<|bG<|aU<|pb mh gF I ?_;refine cN cF I<|eN I<|cE h I (fun h=>?_) (fun h=>?_)
   ·refine aL<|a8 I<|bN pS jC cF I<|d (aW (r:=aC) (ys:=[e1.Col]) (xs:=[.tmp 21]) eu cF I I I I I ⟨(Y I),Q⟩)<|ck h fun out1 q_out1 h=>dH cF I I I I eu I I (Y I) (Y I) q_out1 fun l2 c2=>gJ I<|bu<|db A hN I ?_;exact aM (aE (ih (i+1) out1 l2 c2 ⟨cW A,h⟩) (be I))
   ·refine bA<|db A hN I ?_;exact aM (aE (ih (i+1) out l c ⟨cW A,h⟩) (be I))
def Mh{l:Option Nat}{c:Nat}{xs s:List Int}{lo:Int}{R}(hs:cB xs lo (xs.length:Int)=some s)(h:jt s=some R):dB aH 118 [tV (jr 1 l c lo.toNat s.length)] [eg aC 3 l c xs] (fun i:OI=>oq (i.h 0).1 (i.h 0).2 R) (fun i=>[eg aC 3 (i.h 0).1 (i.h 0).2 R,eg aC 3 l c xs]):=by
 refine dB.of Tryz.func118 I I I fun w0 S0=>aU<|d (bC tw)<|bG<|aZ<|a8 I<|Gx (r:=aC) eu (.head _) hs (Y I) I fun isnil hisnil=>bG<|w7 (Y I) (fun hc=>?_) (fun hc=>?_)
 ·have A:=hisnil hc
  have h:some sM=some R:=by simpa [jt,mM,A] using h
  exact aU<|bS false aC 3<|d (bC tw)<|dh<|ah<|so h▸de I (oi none 0) I I (fun _ _ h=>h)
 ·exact ip<|aU<|fk (r:=aC) (ys:=sM) (xs:=[]) eu cF I I I I I trivial I fun l1 c1=>a8 I<|ck h fun x q_x h=>Eb cF I I I I eu I I (Y I) (.tail _ (.head _)) hs (Y I) q_x fun l2 c2=>aR I<|so h▸de I (oi l2 c2) I I (fun _ _ h=>h)

def Mi(b:Nat)(l:Option Nat)(c:Nat) stack k{R}(h:qm stack k=some R):dB aH 117 [aO k,tV (aj b 0)] [bx rV 35 b (M l c stack.length),eg aC 3 l c stack] (fun i:OI=>lE R.1) (fun i=>[bx rV 35 b (M (i.h 0).1 (i.h 0).2 R.2.length),eg aC 3 (i.h 0).1 (i.h 0).2 R.2]):=by
 refine dB.of Tryz.func117 I I I fun w0 S0=>aU<|ov aC<|bG<|aU<|d (ph gc (.head _) (Y I))<|d (ph gc (.head _) (Y I))<|d (eK eu (.tail _ (.head _)) (Y I))<|a8 I<|d (j9 (Y I) (Y I))<|ck h fun y q_y h=>d (mw eu cF I (.tail _ (.head _)) (Y I) (Y I) q_y)<|lw (.tail _ (.head _)) q_y fun hv=>cU<|ck h fun r q_r h=>uO [eg aC 3 l c stack] _ I OF (Mh q_y q_r) ⟨(Y I),Q⟩ I fun i=>?_;refine(show RG _ _ _ _ [_,_,_] _ from ?_);refine bk I<|aU<|d (ph gc (.tail _ (.tail _ (.head _))) (Y I))<|d (ph gc (.tail _ (.tail _ (.head _))) (Y I))<|d (eK eu (.tail _ (.head _)) (Y I))<|a8 I<|d (j9 (Y I) (Y I))<|ck h fun y1 q_y1 h=>d (oD eu cF I (.tail _ (.head _)) (Y I) (Y I) q_y1)<|cU<|Bk q_y1<|gS<|jb gc I al I (Y I) (IE (Y I))<|bG<|aG I<|bk I ?_;exact rk<|fY<|nt<|fN 3 I<|fN 11 I<|fN 4 I<|fN 18 I<|je 3 I<|aI<|dp<|dp<|so h▸de I (oi l c) I I (fun _ _ h=>h)

def L1 e do1{R}(h:sC e do1=some R):cw aH 61 [V aa e,(eV aH IM IL (fun(x:aS×(List Int))=>do1 x.1 x.2))] (tT [aO R.1,aO R.2]):=by
 refine cX Tryz.func61 I<|aU<|cY I<|bJ<|bJ<|bG<|CC<|aU<|bS false aC 3<|aT (x:=M none 0 0) gc (fun _=>Lq) I fun b=>bG<|aU<|bJ<|bG<|aU<|d (Ho (cts:=[tV (aj b 0)]) (caps:=[.tmp 6]) ⟨(Y I),Q⟩)<|gJ I ?_;refine bG<|aU<|bJ<|bG<|aF<|CD<|av<|aZ<|bN s5 lP C0 I<|cu o7 I<|d (bt hI)<|bG ?_;refine GH (aw:=fun bad stack l c=>lR bad stack=some R) (Of:=fun bad stack l c=>[bx rV 35 b (M l c stack.length),eg aC 3 l c stack]) (Gf:=fun bad stack l c=>[(6,tV (aj b 0)),(7,aO 0),(9,aO bad)]) (fun bad stack l c h=>?_) (fun hg=>?_)
 ·skip
  refine av<|aZ<|a8 I<|ic I<|cE h I (fun h=>?_) (fun h=>?_)
  ·exact aG I<|a8 I<|gJ I<|aR I<|ah<|vQ<|aI<|aI<|so h▸dO I I I
  ·exact ip<|aU<|d (ph gc (.head _) (Y I))<|ck h fun e1 q_e1 h=>d (bK eu cF (.tail _ (.head _)) (Y I) hI q_e1)<|d (cK (r:=aC) (i:=(0:Int)) (foff:=0) cF I I bZ I (.tail _ (.head _)) q_e1 (Y I))<|gJ I<|ev<|vQ<|aI<|aI<|so h▸dO I I I
 ·skip
  refine aQ (k:=16) I fun hN=>bq ?_;refine aE (yA (aw:=fun ls i bad1 stack1 l1 c1=>(e.Nodes.drop i=ls)/\lQ do1 ls bad1 stack1=some R) (Of:=fun _ i bad1 stack1 l1 c1=>[bx rV 35 b (M l1 c1 stack1.length),eg aC 3 l1 c1 stack1]) (Gf:=fun _ i bad1 stack1 l1 c1=>[(1,(eV aH IM IL (fun(x:aS×(List Int))=>do1 x.1 x.2))),(6,tV (aj b 0)),(7,aO 0),(8,tC 117 [tV (aj b 0)]),(9,aO bad1),(16,fO (bg) e.Nodes),(17,jf e.Nodes),(18,aO (i:Int))]) (fun i bad1 stack1 l1 c1 h=>?_) (fun e2 tl ih i bad1 stack1 l1 c1 h=>?_) e.Nodes 0 (0:Int) sM none 0 ⟨I,h⟩) (be I)
  ·obtain⟨A,h⟩:=h
   refine dr A I ?_;exact cx (hg bad1 stack1 l1 c1 h) (be I)
  ·obtain⟨A,h⟩:=h
   refine dq A I<|aF<|ai<|aU<|eM o7 fP I (dv A)<|aT fP kn I fun b1=>bX fP al I<|aP 11 I<|bG<|aF<|ck h fun r q_r h=>ck h fun r1 q_r1 h=>?_;refine ck h fun r2 q_r2 h=>?_
   refine eh 12 [tc ((eV aH IM IL (fun(x:aS×(List Int))=>do1 x.1 x.2))),tc (V bg e2),tc (tC 117 [tV (aj b 0)]),tc (bb aC e2.Tag),tc (aO e2.Tag),tc (aO r),tc (lE r1.1),tc (tT [aO r2.1,aO r2.2]),tc (tT [aO r2.1,aO r2.2]),tc (aO r2.1),tc (aO r2.2),tc (aO r2.1)] [false,false,false,false,false,false,true,false,false,false,false,false] [fun _=>[bx rV 35 b (M l1 c1 stack1.length),eg aC 3 l1 c1 stack1],fun sg=>[bx rV 35 b (M ((sg 6).h 0).1 ((sg 6).h 0).2 r1.2.length),eg aC 3 ((sg 6).h 0).1 ((sg 6).h 0).2 r1.2]] I mixed I I I I I
    ⟨⟨[⟨1,fun _=>(eV aH Ld K0 (fun(x:aS×(List Int))=>do1 x.1 x.2)),none⟩],_,0,1,I,⟨(fun _=>I),Q⟩,I,I,I,I,I,fun _ sg _ _=>h2 I (fh I)⟩,
    ⟨⟨[⟨11,fun _=>bb bg e2,none⟩],_,0,1,I,⟨(fun _=>I),Q⟩,I,I,I,I,I,fun _ sg _ _=>h2 I (o9 fP I I)⟩,
    ⟨⟨[⟨8,fun _=>tC 117 [tV (aj b 0)],none⟩],_,0,0,I,⟨(fun _=>I),Q⟩,I,I,I,I,I,fun _ sg _ _=>h2 I (fh I)⟩,
    ⟨⟨[⟨11,fun _=>bb bg e2,none⟩],_,0,0,I,⟨(fun _=>I),Q⟩,I,I,I,I,I,fun _ sg _ _=>h2 I (oo mh gF I I)⟩,
    ⟨⟨[⟨26,fun _=>bb aC e2.Tag,some 3⟩],_,0,0,I,⟨(fun _=>I),Q⟩,I,I,I,I,I,fun _ sg _ _=>h2 I (o9 cF I I)⟩,
    ⟨⟨[⟨27,fun _=>V aC e2.Tag,some 4⟩],_,0,0,I,⟨(fun _=>I),Q⟩,I,I,I,I,I,fun _ sg _ _=>h2 I (bp KR (E8 _ q_r) ⟨(Y I),Q⟩)⟩,
    ⟨⟨[⟨25,fun _=>tC 117 [tV (aj b 0)],some 2⟩,⟨28,fun _=>V aC r,some 5⟩],_,I,⟨(fun _=>I),(fun _=>I),Q⟩,I,I,I,fun sg=>bB I (EffOK.fr1 (EffOK.fr1 (Gl (xs:=[.tmp 28]) (ts:=[V aC r]) (cts:=[tV (aj b 0)]) [bx rV 35 b (M l1 c1 stack1.length),eg aC 3 l1 c1 stack1] _ I OG (Mi b l1 c1 _ _ q_r1) (Y I) ⟨(Y I),Q⟩ (fun _=>I))))⟩,
    ⟨⟨[⟨23,fun _=>(eV aH Ld K0 (fun(x:aS×(List Int))=>do1 x.1 x.2)),some 0⟩,⟨24,fun _=>V bg e2,some 1⟩,⟨29,fun _=>V wy r1.1,some 6⟩],_,1,1,I,⟨(fun _=>I),(fun _=>I),(fun _=>I),Q⟩,I,I,I,I,I,fun _ sg _ _=>h2 I (fq (args:=Ld) (res:=K0) (f:=(fun(x:aS×(List Int))=>do1 x.1 x.2)) (x:=((e2,r1.1):aS×(List Int))) (Y I) q_r2 ⟨(Y I),(Y I),Q⟩)⟩,
    ⟨⟨[⟨30,fun _=>tT [V aC r2.1,V aC r2.2],some 7⟩],_,1,1,I,⟨(fun _=>I),Q⟩,I,I,I,I,I,fun _ sg _ _=>h2 I (fh I)⟩,
    ⟨⟨[⟨22,fun _=>tT [V aC r2.1,V aC r2.2],some 8⟩],_,1,1,I,⟨(fun _=>I),Q⟩,I,I,I,I,I,fun _ sg _ _=>h2 I (ro I I)⟩,
    ⟨⟨[⟨22,fun _=>tT [V aC r2.1,V aC r2.2],some 8⟩],_,1,1,I,⟨(fun _=>I),Q⟩,I,I,I,I,I,fun _ sg _ _=>h2 I (ro I I)⟩,
    ⟨⟨[⟨31,fun _=>V aC r2.1,some 9⟩],_,1,1,I,⟨(fun _=>I),Q⟩,I,I,I,I,I,fun _ sg _ _=>h2 I (wA I)⟩,
    Q⟩⟩⟩⟩⟩⟩⟩⟩⟩⟩⟩⟩ (fun sg=>?_)
   refine(show RG _ _ _ _ [_,_] _ from ?_);refine bk I<|aZ<|a8 I<|ic I<|cE h I (fun h=>?_) (fun h=>?_)
   ·refine aG I<|bk I<|dU<|au<|bT I<|au<|au<|cj ?_;exact cx (hg r2.2 r1.2 ((sg 6).h 0).1 ((sg 6).h 0).2 h) (be I)
   ·refine ip<|aL<|d (ph gc (.head _) (Y I))<|a8 I<|d (aW (r:=aC) (ys:=[r2.1]) (xs:=[.tmp 37]) eu cF I I I I I ⟨(Y I),Q⟩)<|cU<|ck h fun l2 q_l2 h=>dH cF I I I I eu I I (Y I) (Y I) q_l2 fun l3 c2=>cU<|jb gc I al I (Y I) (IE (Y I))<|bu<|db A hN I ?_;exact aM (aE (ih (i+1) bad1 l2 l3 c2 ⟨cW A,h⟩) (be I))

end Go.Proofs.YthbdkceckjihgaaGreatDoor

