/- cH of this claim: P1. -/
import Derived.Test.YthbdkceckjihgaaGreatDoorBaT
import Derived.Test.YthbdkceckjihgaaGreatDoorBaP0
set_option linter.all false
namespace Go.Proofs.YthbdkceckjihgaaGreatDoor
open Go
set_option maxRecDepth 100000

def LN s f{R}(h:fi s f=some R):cw aH 90 [fO (aV) s,(eV aH IK tJ (fun(x:aJ)=>f x))] (ia R):=by
 exact cX Tryz.func90 I<|aU<|bQ<|bG<|aG I<|a8 I<|eD h Oo (JQ _ _) (dc I) fun r h=>d (e9 (Y I) hI)<|aR I<|so h▸aA I I

def w4 s{R}(h:pp s=some R):cw aH 138 [V rS s] (ia R):=by
 refine cX Tryz.func138 I<|aU<|bQ<|bG<|aG I<|d (jj (Y I) hS)<|a8 I<|ck h fun t q_t h=>aK I (cO I) ?_
 obtain⟨r,h1t,h0t⟩:=og q_t
 have q_rg:=fun D=>(h1t D).1
 exact aK I (fun K=>bp Cn (q0 _ (q_rg K)) ⟨(bI I K),Q⟩)<|d (cP (Y I) (fun D=>(bI I (lD D))) (fun D=>(h1t D).2) h0t)<|aR I<|so h▸aA I I

def E3 s{R}(h:tg s=some R):cw aH 136 [V eT s] (ia R):=by
 refine cX Tryz.func136 I<|aU<|cY I<|bQ<|bG<|aU<|bN DF qV j5 I<|eD h Cn (q0 _) (dc I) fun r h=>a8 I<|ck h fun t q_t h=>aB I (dP DE qU I I)<|aB I (du j5 I I) ?_
 obtain⟨r1,h1t,h0t⟩:=og q_t
 have q_r1g:=fun D=>(h1t D).1
 exact aB I (fun K=>bp Fg (w4 _ (q_r1g K)) ⟨(bI I K),Q⟩)<|d (cb (Y I) (fun D=>(bI I D)) (fun D=>(h1t D).2) h0t)<|aR I<|so h▸aA I I

def Jx s f{R}(h:gx s f=some R):cw aH 212 [fO (bh) s,(eV aH IJ tJ (fun(x:cD)=>f x))] (aO R):=by
 refine cX Tryz.func212 I<|aU<|bJ<|bG<|aZ<|a8 I<|cu Bv I<|d (bt hI)<|bG<|ai<|aQ (k:=6) I fun hN=>bq ?_;refine aE (eH (aw:=fun ls i=>(s.drop i=ls)/\ei f ls i=some R) (Of:=fun _ i=>[]) (Gf:=fun _ i=>[(0,fO (bh) s),(1,(eV aH IJ tJ (fun(x:cD)=>f x))),(7,jf s),(8,aO (i:Int))]) (fun i h=>?_) (fun e tl ih i h=>?_) s 0 ⟨I,h⟩) (be I)
 ·obtain⟨A,h⟩:=h
  exact dr A I<|av<|aU<|ev<|so h▸aA I I
 ·obtain⟨A,h⟩:=h
  refine dq A I<|aF<|ai<|aG I<|bk I<|aG I<|a8 I<|a8 I<|nB Bv iR I (dv A) ?_;refine cN iR I<|ck h fun r q_r h=>d (fq (args:=IJ) (res:=Bx) (f:=(fun(x:cD)=>f x)) (x:=((e):cD)) (Y I) q_r ⟨(Y I),Q⟩)<|cE h I (fun h=>?_) (fun h=>?_)
  ·exact aG I<|aR I<|cz<|ah<|cz<|so h▸aA I I
  ·refine bA<|db A hN I ?_;exact aM (aE (ih (i+1) ⟨cW A,h⟩) (be I))

def JJ s f{R}(h:fQ s f=some R):cw aH 170 [fO (bh) s,(eV aH IJ tJ (fun(x:cD)=>f x))] (ia R):=by
 exact cX Tryz.func170 I<|aU<|bQ<|bG<|aG I<|a8 I<|eD h NX (Jx _ _) (dc I) fun r h=>d (e9 (Y I) hI)<|aR I<|so h▸aA I I

def Jr tag{R}(h:zR tag=some R):cw aH 233 [aO tag] (aO R):=by
 refine cX Tryz.func233 I<|aU<|bJ<|bG<|aF<|ai<|aG I<|d (fl (Y I) hI)<|a8 I<|aK I (cO I)<|aK I (fun K=>fz (bI I K) hI)<|gU I<|bk I<|m3 h I (fun h=>?_) (fun h=>?_)
 ·exact aU<|ev<|cz<|so h▸aA I I
 ·refine aG I<|d (jg (Y I) hI)<|bk I<|m3 h I (fun h=>?_) (fun h=>?_)
  ·exact aU<|ev<|cz<|so h▸aA I I
  ·refine aG I<|d (jg (Y I) hI)<|bk I<|m3 h I (fun h=>?_) (fun h=>?_)
   ·exact aU<|ev<|cz<|so h▸aA I I
   ·exact bA<|bl<|av<|aU<|ev<|so h▸aA I I

def Jp v{R}(h:vW v=some R):cw aH 238 [V dd v] (V dd R):=by
 refine cX Tryz.func238 I<|aU<|w6 (Y I) I fun b=>aT mq ny I fun b1=>bG<|aZ<|bz 0 rL I<|d (bm cF I I pL (.tail _ (.head _)) (Y I))<|bG ?_;refine z6 (aw:=fun v1=>iq v1=some R) (Of:=fun v1=>[bx dd 104 b v1,bx dd 104 b1 CT]) (Gf:=fun v1=>[(1,tV (aj b 0)),(2,tV (aj b1 0))]) (fun v1 h=>?_) (fun hg=>?_)
 ·skip
  exact av<|aU<|d (bm mq I I bZ (.head _) (Y I))<|cU<|bX mq al I<|aP 2 I<|dh<|aI<|so h▸oe I mq I I I
 ·skip
  refine aF<|ai<|aF<|ai<|aF ?_;refine z6 (aw:=fun v2=>nE v2=some R) (Of:=fun v2=>[bx dd 104 b v2,bx dd 104 b1 CT]) (Gf:=fun v2=>[(1,tV (aj b 0)),(2,tV (aj b1 0))]) (fun v2 h=>?_) (fun K1=>?_)
  ·skip
   refine av<|aU<|bz 0 rL I<|jb cF I sV I (Y I) hI<|bG<|dU<|bT I<|au<|bT I<|au<|cj ?_;exact cx (hg (dl.mk (0:Int) v2.N v2.U v2.S) h) (be I)
  ·skip
   refine aF ?_;refine GJ (aw:=nD v=some R) (Of:=[bx dd 104 b v,bx dd 104 b1 CT]) (Gf:=[(1,tV (aj b 0)),(2,tV (aj b1 0))]) (fun h=>?_) (fun K2=>?_)
   ·skip
    refine av<|aL<|bz 1 uD I<|jb Mr I xy I (Y I) hI<|bu<|bl ?_;exact cx (K1 (dl.mk v.Kind (0:Int) v.U v.S) h) (be I)
   ·skip
    refine aF<|ai<|aF<|aZ<|eN I<|bk I<|m3 h I (fun h=>?_) (fun h=>?_)
    ·refine dU<|au<|au<|cj<|av<|aU<|bz 1 uD I<|d (bm Mr I I pK (.tail _ (.head _)) (Y I))<|ic I<|a8 I<|aB I (fun K=>lA 1 uD I I I)<|aB I (fun K=>bm Mr I I pK (.tail _ (.head _)) (bI I K))<|aB I (sq I)<|fF I<|cE h I (fun h=>?_) (fun h=>?_)
     ·refine dU<|bT I<|au<|bT I<|au<|bT I<|au<|bT I<|au<|cj<|dp ?_;exact cx (hg v h) (be I)
     ·refine bA<|bl<|dp ?_;exact cx (K2 h) (be I)
    ·refine ip<|aZ<|eN I<|bk I<|m3 h I (fun h=>?_) (fun h=>?_)
     ·refine dU<|au<|au<|bT I<|au<|cj<|dp ?_;exact cx (K2 h) (be I)
     ·refine ip<|aZ<|eN I<|bk I<|m3 h I (fun h=>?_) (fun h=>?_)
      ·refine dU<|au<|au<|bT I<|au<|bT I<|au<|cj<|dp ?_;exact cx (K1 v h) (be I)
      ·refine ip<|aZ<|eN I<|bk I<|m3 h I (fun h=>?_) (fun h=>?_)
       ·refine dU<|au<|au<|bT I<|au<|bT I<|au<|bT I<|au<|cj<|av ?_;refine iL (aw:=fun v3=>nC v3=some R) (Of:=fun v3=>[bx dd 104 b v3,bx dd 104 b1 CT]) (Gf:=fun v3=>[(1,tV (aj b 0)),(2,tV (aj b1 0))]) (fun v3 h=>?_) (fun K3=>?_)
        ·skip
         refine dU<|bT I<|au<|cj ?_;exact cx (hg v3 h) (be I)
        ·skip
         refine aU<|bz 3 rK I<|d (bm j5 I I nO (.tail _ (.head _)) (Y I))<|d (me kx (Y I))<|d (jg (Y I) hI)<|cE h I (fun h=>?_) (fun h=>?_)
         ·refine aL<|bz 0 rL I<|cU<|jb cF I sV I (Y I) hI<|bz 3 rK I<|jb j5 I xx I (Y I) hS<|bu ?_;exact cx (K3 (dl.mk (0:Int) v.N v.U ([])) h) (be I)
         ·refine bA<|dp ?_;exact cx (K3 v h) (be I)
       ·refine ip<|aU<|eN I<|bk I<|m3 h I (fun h=>?_) (fun h=>?_)
        ·refine dU<|au<|bT I<|au<|bT I<|au<|bT I<|au<|bT I<|au<|cj<|av<|aU<|bz 0 rL I<|cU<|jb cF I sV I (Y I) hI<|bz 1 uD I<|jb Mr I xy I (Y I) hI<|bz 2 Jc I<|jb Kz I C7 I (Y I) hI<|bG<|dU ?_;refine cj ?_;exact cx (hg (dl.mk (0:Int) (0:Int) (0:Int) v.S) h) (be I)
        ·refine ip<|dU<|bT I<|au<|bT I<|au<|bT I<|au<|bT I<|au<|bT I<|au<|cj<|dp ?_;exact cx (hg v h) (be I)

def Js v{R}(h:vX v=some R):cw aH 221 [V dd v] (aO R):=by
 refine cX Tryz.func221 I<|aU<|cY I<|bJ<|bG<|aZ<|cN mq I<|eD h NN (Jp _) (dc I) fun r h=>d (bV mq ET ny I)<|d (wY Fa (Y I) (Y I))<|cE h I (fun h=>?_) (fun h=>?_)
 ·exact aU<|ev<|ah<|so h▸aA I I
 ·exact ip<|aU<|ev<|so h▸aA I I

def E1 v{R}(h:qD v=some R):cw aH 189 [V dd v] (ia R):=by
 exact cX Tryz.func189 I<|aU<|cY I<|bQ<|bG<|aU<|cN mq I<|eD h NR (Js _) (dc I) fun r h=>eN I<|a8 I<|aB I (dP rL pL I I)<|aB I (du cF I I)<|aB I (sq I)<|fF I<|aR I<|so h▸aA I I

def Jo s{R}(h:wn s=some R):cw aH 243 [V rS s] (ia R):=by
 refine cX Tryz.func243 I<|aU<|bQ<|bG<|aZ<|a8 I<|d (me kx (Y I))<|d (bt hI)<|bG<|ai<|bq ?_;refine aE (oU (aw:=fun n x=>nX s n x=some R) (Of:=fun x=>[]) (Gf:=fun x=>[(0,V rS s),(5,jf s),(6,aO x)]) (fun x h=>nn h) (fun n ih x h=>?_) kw (0:Int) h) (be I);refine dg<|aU<|ou I<|bG<|aF<|m3 h I (fun h=>?_) (fun h=>?_)
 ·refine ip<|aF<|ai<|aG I<|bk I<|aG I<|a8 I<|ck h fun b q_b h=>d (kJ kx (Y I) (Y I) q_b)<|d (fl (Y I) hI)<|a8 I<|ck h fun t q_t h=>aK I (cO I)<|aK I (cO I) ?_
  obtain⟨b1,h1t,h0t⟩:=og q_t
  have q_b1g:=fun D=>(h1t D).1
  refine aK I (fun K=>kJ kx (bI I K) (bI I K) (q_b1g K))<|aK I (fun K=>fz (bI I K) hI)<|d (cP (Y I) (fun D=>(bI I (lD D))) (fun D=>(h1t D).2) h0t)<|cE h I (fun h=>?_) (fun h=>?_)
  ·exact aU<|bQ<|dh<|cz<|ah<|cz<|so h▸aA I I
  ·refine bA<|bl<|av<|aL<|d (iA (Y I) hI)<|a8 I<|bu ?_;exact aM (aE (ih (IntKind.i64.wrap (x+(1:Int))) h) (be I))
 ·exact dU<|au<|au<|cj<|av<|aU<|bQ<|dh<|so h▸aA I I

def Jq n{R}(h:yp n=some R):cw aH 234 [V cg n] (ia R):=by
 refine cX Tryz.func234 I<|aU<|cY I<|bQ<|bG<|aF ?_
 refine fX (ts:=[_,_,_,_,_,_,_,_,_,_,_,_,_,_]) mixed I I
  ⟨rp 1 I I (oo rG pl I I),
  ⟨mQ 0 j5 I I,
  ⟨gH 6 1 I I (wX (Y I) hS),
  ⟨gH 7 2 I I (fh I),
  ⟨tL 1 8 3 I I I (gO I I I I (fun K=>oo pQ ns I I)),
  ⟨nz 9 4 8 3 I I I (gO I I I I (fun K=>fS j5 I I (bI I K))),
  ⟨nz 10 5 8 3 I I I (gO I I I I (fun K=>wX (bI I K) hS)),
  ⟨ij 8 3 11 6 I I I (OU I I),
  ⟨rp 1 I I (oo oK kK I I),
  ⟨mQ 8 mq I I,
  ⟨zd0 I (bV mq ET ny I),
  ⟨ij 14 9 15 10 I I I (wY Fa (Y I) (Y I)),
  ⟨gH 12 7 I I (wA I),
  ⟨gH 16 11 I I (wA I),
  Q⟩⟩⟩⟩⟩⟩⟩⟩⟩⟩⟩⟩⟩⟩ ?_
 refine av<|aZ<|bN ni jX cF I<|bG<|ai<|aU<|eN I<|bk I<|m3 h I (fun h=>?_) (fun h=>?_)
 ·refine aG I<|d (iz (Y I))<|a8 I<|ck h fun t q_t h=>aB I (dP oK kK I I)<|aB I (du mq I I) ?_
  obtain⟨r,h1t,h0t⟩:=og q_t
  have q_rg:=fun D=>(h1t D).1
  refine aB I (fun K=>bp KG (E1 _ (q_rg K)) ⟨(bI I K),Q⟩)<|d (cb (Y I) (fun D=>(bI I D)) (fun D=>(h1t D).2) h0t)<|a8 I<|aB I (dP oK kK I I)<|aB I (fun K=>gY uD I pK I (bI I K))<|aB I (du Mr I I)<|aB I (fun K=>e9 (bI I K) hI)<|fF I<|a8 I<|ck h fun t1 q_t1 h=>aB I (dP oK kK I I)<|aB I (fun K=>gY rK I nO I (bI I K))<|aB I (du j5 I I) ?_
  obtain⟨r1,h1t1,h0t1⟩:=og q_t1
  have q_r1g:=fun D=>(h1t1 D).1
  exact aB I (fun K=>bp NM (Jo _ (q_r1g K)) ⟨(bI I K),Q⟩)<|d (cb (Y I) (fun D=>(bI I D)) (fun D=>(h1t1 D).2) h0t1)<|aR I<|cz<|so h▸aA I I
 ·refine aU<|eN I<|bk I<|m3 h I (fun h=>?_) (fun h=>?_)
  ·refine aG I<|d (iz (Y I))<|a8 I<|ck h fun t2 q_t2 h=>aB I (dP pQ ns I I)<|aB I (du j5 I I) ?_
   obtain⟨r2,h1t2,h0t2⟩:=og q_t2
   have q_r2g:=fun D=>(h1t2 D).1
   refine aB I (fun K=>bp Cn (q0 _ (q_r2g K)) ⟨(bI I K),Q⟩)<|d (cb (Y I) (fun D=>(bI I D)) (fun D=>(h1t2 D).2) h0t2)<|a8 I<|ck h fun t3 q_t3 h=>aB I (dP rG pl I I)<|aB I (du j5 I I) ?_
   obtain⟨r3,h1t3,h0t3⟩:=og q_t3
   have q_r3g:=fun D=>(h1t3 D).1
   exact aB I (fun K=>bp Fg (w4 _ (q_r3g K)) ⟨(bI I K),Q⟩)<|d (cb (Y I) (fun D=>(bI I D)) (fun D=>(h1t3 D).2) h0t3)<|aR I<|cz<|so h▸aA I I
  ·exact bA<|bl<|av<|aG I<|d (iz (Y I))<|a8 I<|aB I (cO I)<|aB I (qC I)<|fF I<|aR I<|so h▸aA I I

def Jw t{R}(h:zS t=some R):cw aH 213 [V bh t] (tT [fO (ek) R.1,ia R.2]):=by
 refine cX Tryz.func213 I<|aU<|cY I<|ov (ek)<|bQ<|bG<|aU<|bS false ek 300<|d (bC tw)<|bG<|aU<|bS false aC 3<|d (bC tw)<|bG<|aZ<|pb kE gv I ?_;refine cN sP I<|cu nv I<|d (bt hI)<|bG<|ai<|aQ (k:=15) I fun hN=>bq<|fg ?_;refine aE (yz (aw:=fun ls i all l c open1 l1 c1=>(t.Nodes.drop i=ls)/\np ls i all open1=some R) (Of:=fun _ i all l c open1 l1 c1=>[eg ek 300 l c all,eg aC 3 l1 c1 open1]) (Gf:=fun _ i all l c open1 l1 c1=>[(4,oq l c all),(5,oq l1 c1 open1),(15,fO (cg) t.Nodes),(16,jf t.Nodes),(17,aO (i:Int))]) (fun i all l c open1 l1 c1 h=>?_) (fun e tl ih i all l c open1 l1 c1 h=>?_) t.Nodes 0 ([]:List iJ) none 0 sM none 0 ⟨I,h⟩) (be I)
 ·obtain⟨A,h⟩:=h
  refine dr A I<|av<|aF<|ck h fun t1 q_t1 h=>?_
  obtain⟨e1,h1t1,h0t1⟩:=og q_t1
  have q_e1g:=fun D=>(h1t1 D).1
  refine fX (ts:=[_,_,_,_,_,_,_,_,_,_,_,_,_,_,_,_,_,_,_,_,_]) mixed I I
   ⟨iQ I I,
   ⟨iQ I I,
   ⟨gH 105 1 I I (eK eu (.tail _ (.head _)) (Y I)),
   ⟨gH 106 2 I I (OX I),
   ⟨gH 107 3 I I (fh I),
   ⟨tL 4 108 4 I I I (oc I I I I (fun K=>fh I)),
   ⟨nz 109 5 108 4 I I I (oc I I I I (fun K=>eK Bn (.head _) (bI I K))),
   ⟨nz 110 6 108 4 I I I (oc I I I I (fun K=>jg (bI I K) hI)),
   ⟨ij 108 4 111 7 I I I (zpa I I),
   ⟨gH 112 8 I I (fh I),
   ⟨tL 4 113 9 I I I (oc I I I I (fun K=>fh I)),
   ⟨tL 4 113 9 I I I (oc I I I I (fun K=>fh I)),
   ⟨nz 115 11 113 9 I I I (oc I I I I (fun K=>eK Bn (.head _) (bI I K))),
   ⟨nz 116 12 113 9 I I I (oc I I I I (fun K=>j9 (bI I K) hI)),
   ⟨vU 114 10 117 13 113 9 I I I I (oc I I I I (fun K=>bK Bn ss (.head _) (bI I K) (bI I K) (q_e1g K))),
   ⟨nz 118 14 113 9 I I I (oc I I I I (fun K=>cy (o:=(IntKind.i64.wrap ((all.length:Int)-(1:Int))).toNat*2+0) (n:=(IntKind.i64.wrap ((all.length:Int)-(1:Int))).toNat*2+1) uy I (.head _) (q_e1g K) (bI I K) I)),
   ⟨nz 119 15 113 9 I I I (oc I I I I (fun K=>cK (r:=ek) (i:=(IntKind.i64.wrap ((all.length:Int)-(1:Int)))) (foff:=1) cF I I pJ I (.head _) (q_e1g K) (bI I K))),
   ⟨nz 120 16 113 9 I I I (oc I I I I (fun K=>jg (bI I K) hI)),
   ⟨ij 113 9 121 17 I I I (cb (Y I) (fun D=>(bI I D)) (fun D=>(h1t1 D).2) h0t1),
   ⟨gH 104 0 I I (wA I),
   ⟨gH 122 18 I I (wA I),
   Q⟩⟩⟩⟩⟩⟩⟩⟩⟩⟩⟩⟩⟩⟩⟩⟩⟩⟩⟩⟩⟩ ?_
  exact av<|rk<|nt<|fN 4 I<|fN 104 I<|fN 2 I<|je 2 I<|aI<|aI<|so h▸dO I I I
 ·obtain⟨A,h⟩:=h
  refine dq A I<|aF<|ai<|aG I<|eM nv ko I (dv A)<|aT ko tI I fun b=>gJ I<|bX ko al I<|aP 7 I<|bG<|aF ?_;refine aL<|bN ni jX cF I<|eD h NQ (Jr _) (dc I) fun r h=>bk I<|aZ<|a8 I<|d (fl (Y I) hI)<|a8 I<|aK I (cO I)<|aK I (cO I)<|aK I (fun K=>eK eu (.tail _ (.head _)) (bI I K))<|aK I (fun K=>fz (bI I K) (bI I K))<|gU I<|a8 I<|ck h fun t2 q_t2 h=>aK I (fun K=>o9 ko I I) ?_
  obtain⟨r1,h1t2,h0t2⟩:=og q_t2
  have q_r1g:=fun D=>(h1t2 D).1
  refine aK I (fun K=>bp NP (Jq _ (q_r1g K)) ⟨(bI I K),Q⟩)<|aK I (qC I)<|d (cP (Y I) (fun D=>(bI I (lD D))) (fun D=>(h1t2 D).2) h0t2)<|cE h I (fun h=>?_) (fun h=>?_)
  ·exact aU<|ov (ek)<|bQ<|dh<|ah<|cz<|ah<|cz<|aI<|aI<|so h▸dO I I I
  ·refine ip<|aG I<|a8 I<|d (eK eu (.tail _ (.head _)) (Y I))<|a8 I<|d (j9 (Y I) (Y I))<|ck h fun y q_y h=>d (mw eu cF I (.tail _ (.head _)) (Y I) (Y I) q_y)<|lw (.tail _ (.head _)) q_y fun hv=>bk I<|aU<|fk (r:=aC) (ys:=[hJ,hJ]) (xs:=[.const (.int .i64 (-1)),.const (.int .i64 (-1))]) eu cF I I I I I ⟨hI,hI,Q⟩ I fun l2 c2=>bk I<|aG I ?_;refine a8 I<|ck h fun cp q_cp h=>km (DU (.tail _ (.tail _ (.head _))) q_y eu (IR cF) (Y I) (Y I) (so q_cp)) I fun i1=>?_;refine(show RG _ _ _ _ [_,_,_] ((47,aO ((min y.length ([hJ,hJ]).length:Nat):Int))::_)from ?_);refine fV (yk (so q_cp)) 44 I<|fV (yk (so q_cp)) 10 I<|fV (yk (so q_cp)) 45 I<|bG<|aF<|aF<|ck h fun e2 q_e2 h=>ck h fun t3 q_t3 h=>?_
   obtain⟨e3,h1t3,h0t3⟩:=og q_t3
   have q_e3g:=fun D=>(h1t3 D).1
   refine fX (ts:=[_,_,_,_,_,_,_,_,_,_,_,_,_,_]) mixed I I
    ⟨rp 7 I I (oo EX zF I I),
    ⟨mQ 0 cF I I,
    ⟨iQ I I,
    ⟨gH 50 2 I I (bK eu cF (.head _) (Y I) hI q_e2),
    ⟨gH 51 3 I I (cK (r:=aC) (i:=(0:Int)) (foff:=0) cF I I bZ I (.head _) q_e2 (Y I)),
    ⟨ij 49 1 52 4 I I I (eJ (Y I) (Y I)),
    ⟨gH 53 5 I I (fh I),
    ⟨tL 7 54 6 I I I (gO I I I I (fun K=>oo EW zE I I)),
    ⟨nz 55 7 54 6 I I I (gO I I I I (fun K=>fS cF I I (bI I K))),
    ⟨tL 10 54 6 I I I (gO I I I I (fun K=>fh I)),
    ⟨nz 57 9 54 6 I I I (gO I I I I (fun K=>bK eu cF (.head _) (bI I K) hI (q_e3g K))),
    ⟨nz 58 10 54 6 I I I (gO I I I I (fun K=>cK (r:=aC) (i:=(1:Int)) (foff:=0) cF I I bZ I (.head _) (q_e3g K) (bI I K))),
    ⟨vU 56 8 59 11 54 6 I I I I (gO I I I I (fun K=>eJ (bI I K) (bI I K))),
    ⟨ij 54 6 60 12 I I I (cP (Y I) (fun D=>(bI I (lD D))) (fun D=>(h1t3 D).2) h0t3),
    Q⟩⟩⟩⟩⟩⟩⟩⟩⟩⟩⟩⟩⟩⟩ ?_
   refine av<|m3 h I (fun h=>?_) (fun h=>?_)
   ·exact aU<|ov (ek)<|bQ<|dh<|ah<|cz<|ah<|cz<|aI<|aI<|aI<|so h▸dO I I I
   ·refine ip<|aG I<|d (bV (y:=(⟨(i:Int),(1:Int)⟩:iJ)) ss Nh Bw (⟨_,_,_,_,_,I,xw,I,(Y I),⟨_,_,_,_,_,I,xv,I,hI,I⟩⟩))<|aT ss Bw I fun b1=>bX ss al I<|bG<|aZ<|a8 I<|d (EH eu (.tail _ (.tail _ (.tail _ (.head _)))) q_y (Y I))<|d (bt hI)<|bG<|ai ?_
    have hN1:=hv.2
    refine bq<|fg<|qg<|jd<|jd ?_;refine aE (ft (aw:=fun ls1 i2 b2=>(y.drop i2=ls1)/\qb (np tl) i all open1 r ls1 b2=some R) (Of:=fun _ i2 b2=>[eg ek 300 l c all,eg aC 3 l1 c1 open1,bx ek 300 b1 b2]) (Gf:=fun _ i2 b2=>[(4,oq l c all),(5,oq l1 c1 open1),(6,aO (i:Int)),(8,aO r),(11,tV (aj b1 0)),(15,fO (cg) t.Nodes),(16,jf t.Nodes),(17,aO (i:Int)),(64,tV (jr 1 l1 c1 (IntKind.i64.wrap ((open1.length:Int)-r)).toNat y.length)),(65,jf y),(66,aO (i2:Int))]) (fun i2 b2 h=>?_) (fun e4 tl1 ih1 i2 b2 h=>?_) y 0 (⟨(i:Int),(1:Int)⟩:iJ) ⟨I,h⟩) (be I)
    ·obtain⟨hx1,h⟩:=h
     refine dr hx1 I<|av<|aG I<|d (bm ss I I bZ (.tail _ (.tail _ (.head _))) (Y I))<|d (aW (r:=ek) (ys:=[b2]) (xs:=[.tmp 91]) Bn ss I I I I I ⟨(Y I),Q⟩)<|ck h fun all1 q_all1 h=>dH ss I I I I Bn I I (Y I) (Y I) q_all1 fun l3 c3=>bk I<|aL ?_;refine a8 I<|a8 I<|d (eK eu (.tail _ (.head _)) (Y I))<|a8 I<|d (j9 (Y I) (Y I))<|ck h fun y1 q_y1 h=>d (oD eu cF I (.tail _ (.head _)) (Y I) (Y I) q_y1)<|a8 I<|d (aW (r:=aC) (ys:=[(i:Int)]) (xs:=[.tmp 100]) eu cF I I I I I ⟨(Y I),Q⟩)<|cU<|Bk q_y1<|ck h fun open2 q_open2 h=>dH cF I I I I eu I I (Y I) (Y I) q_open2 fun l4 c4=>gJ I<|bu<|db A hN I<|fY<|aI<|dp ?_;exact aM (aE (ih (i+1) all1 l3 c3 open2 l4 c4 ⟨cW A,h⟩) (be I))
    ·obtain⟨hx1,h⟩:=h
     refine dq hx1 I<|aF<|ai<|aU<|d (sx eu cF I (.tail _ (.head _)) q_y (Y I) (Y I) (dv hx1))<|d (cK (r:=aC) (i:=((IntKind.i64.wrap ((open1.length:Int)-r))+(i2:Int))) (foff:=0) cF I I bZ I (.tail _ (.head _)) (sS q_y (dv hx1)).1 (Y I))<|bk I<|ck h fun e5 q_e5 h=>?_
     refine eh 19 [tc (tV (aj b1 0)),tc (aO b2.first),tc (oq l c all),tc (aO e4),tc (tV (cv l (e4.toNat*2+0))),tc (tV (cv l (e4.toNat*2+0))),tc (aO e5.first),tc (aO (min b2.first e5.first)),tc (tV (aj b1 1)),tc (aO b2.depth),tc (oq l c all),tc (aO e4),tc (tV (cv l (e4.toNat*2+0))),tc (tV (cv l (e4.toNat*2+1))),tc (aO e5.depth),tc (aO (IntKind.i64.wrap (e5.depth+(1:Int)))),tc (aO (max b2.depth (IntKind.i64.wrap (e5.depth+(1:Int))))),tc (tV (aj b1 0)),tc (oX)] [false,false,false,false,false,false,false,false,false,false,false,false,false,false,false,false,false,false,true] [fun _=>[eg ek 300 l c all,eg aC 3 l1 c1 open1,bx ek 300 b1 b2],fun sg=>[bx ek 300 b1 ({b2 with first:=(min b2.first e5.first)}:iJ),eg ek 300 l c all,eg aC 3 l1 c1 open1]] I mixed I I I I I
      ⟨⟨[⟨11,fun _=>tV (aj b1 0),none⟩],_,0,0,I,⟨(fun _=>I),Q⟩,I,I,I,I,I,fun _ sg _ _=>h2 I (lA 0 A2 I I I)⟩,
      ⟨⟨[⟨70,fun _=>tV (aj b1 0),some 0⟩],_,0,0,I,⟨(fun _=>I),Q⟩,I,I,I,I,I,d6 (fun sg=>h2 I (bm cF I I xW (.tail _ (.tail _ (.head _))) (Y I)))⟩,
      ⟨⟨[⟨4,fun _=>tV (M l c all.length),none⟩],_,0,0,I,⟨(fun _=>I),Q⟩,I,I,I,I,I,fun _ sg _ _=>h2 I (fh I)⟩,
      ⟨⟨[⟨13,fun _=>V aC e4,none⟩],_,0,0,I,⟨(fun _=>I),Q⟩,I,I,I,I,I,fun _ sg _ _=>h2 I (fh I)⟩,
      ⟨⟨[⟨72,fun _=>tV (M l c all.length),some 2⟩,⟨73,fun _=>V aC e4,some 3⟩],_,0,0,I,⟨(fun _=>I),(fun _=>I),Q⟩,I,I,I,I,I,d6 (fun sg=>h2 I (bK Bn ss (.head _) (Y I) (Y I) q_e5))⟩,
      ⟨⟨[⟨74,fun _=>tV (cv l (e4.toNat*2+0)),some 4⟩],_,0,0,I,⟨(fun _=>I),Q⟩,I,I,I,I,I,d6 (fun sg=>h2 I (cy (o:=e4.toNat*2+0) (n:=e4.toNat*2+0) A2 I (.head _) q_e5 (Y I) I))⟩,
      ⟨⟨[⟨75,fun _=>tV (cv l (e4.toNat*2+0)),some 5⟩],_,0,0,I,⟨(fun _=>I),Q⟩,I,I,I,I,I,d6 (fun sg=>h2 I (cK (r:=ek) (i:=e4) (foff:=0) cF I I xW I (.head _) q_e5 (Y I)))⟩,
      ⟨⟨[⟨71,fun _=>V aC b2.first,some 1⟩,⟨76,fun _=>V aC e5.first,some 6⟩],_,0,0,I,⟨(fun _=>I),(fun _=>I),Q⟩,I,I,I,I,I,fun _ sg _ _=>h2 I (ji (Y I) (Y I))⟩,
      ⟨⟨[⟨11,fun _=>tV (aj b1 0),none⟩],_,0,0,I,⟨(fun _=>I),Q⟩,I,I,I,I,I,fun _ sg _ _=>h2 I (lA 1 uy I I I)⟩,
      ⟨⟨[⟨78,fun _=>tV (aj b1 1),some 8⟩],_,0,0,I,⟨(fun _=>I),Q⟩,I,I,I,I,I,d6 (fun sg=>h2 I (bm cF I I pJ (.tail _ (.tail _ (.head _))) (Y I)))⟩,
      ⟨⟨[⟨4,fun _=>tV (M l c all.length),none⟩],_,0,1,I,⟨(fun _=>I),Q⟩,I,I,I,I,I,fun _ sg _ _=>h2 I (fh I)⟩,
      ⟨⟨[⟨13,fun _=>V aC e4,none⟩],_,0,1,I,⟨(fun _=>I),Q⟩,I,I,I,I,I,fun _ sg _ _=>h2 I (fh I)⟩,
      ⟨⟨[⟨80,fun _=>tV (M l c all.length),some 10⟩,⟨81,fun _=>V aC e4,some 11⟩],_,0,1,I,⟨(fun _=>I),(fun _=>I),Q⟩,I,I,I,I,I,nA (fun sg=>h2 I (bK Bn ss (.head _) (Y I) (Y I) q_e5)) (d6 (fun sg=>h2 I (bK Bn ss (.tail _ (.head _)) (Y I) (Y I) q_e5)))⟩,
      ⟨⟨[⟨82,fun _=>tV (cv l (e4.toNat*2+0)),some 12⟩],_,0,1,I,⟨(fun _=>I),Q⟩,I,I,I,I,I,nA (fun sg=>h2 I (cy (o:=e4.toNat*2+0) (n:=e4.toNat*2+1) uy I (.head _) q_e5 (Y I) I)) (d6 (fun sg=>h2 I (cy (o:=e4.toNat*2+0) (n:=e4.toNat*2+1) uy I (.tail _ (.head _)) q_e5 (Y I) I)))⟩,
      ⟨⟨[⟨83,fun _=>tV (cv l (e4.toNat*2+1)),some 13⟩],_,0,1,I,⟨(fun _=>I),Q⟩,I,I,I,I,I,nA (fun sg=>h2 I (cK (r:=ek) (i:=e4) (foff:=1) cF I I pJ I (.head _) q_e5 (Y I))) (d6 (fun sg=>h2 I (cK (r:=ek) (i:=e4) (foff:=1) cF I I pJ I (.tail _ (.head _)) q_e5 (Y I))))⟩,
      ⟨⟨[⟨84,fun _=>V aC e5.depth,some 14⟩],_,0,1,I,⟨(fun _=>I),Q⟩,I,I,I,I,I,fun _ sg _ _=>h2 I (iA (Y I) hI)⟩,
      ⟨⟨[⟨79,fun _=>V aC b2.depth,some 9⟩,⟨85,fun _=>V aC (IntKind.i64.wrap (e5.depth+(1:Int))),some 15⟩],_,0,1,I,⟨(fun _=>I),(fun _=>I),Q⟩,I,I,I,I,I,fun _ sg _ _=>h2 I (AH (Y I) (Y I))⟩,
      ⟨⟨[⟨11,fun _=>tV (aj b1 0),none⟩],_,0,0,I,⟨(fun _=>I),Q⟩,I,I,I,I,I,fun _ sg _ _=>h2 I (lA 0 A2 I I I)⟩,
      ⟨⟨[⟨87,fun _=>tV (aj b1 0),some 17⟩,⟨77,fun _=>V aC (min b2.first e5.first),some 7⟩],_,I,⟨(fun _=>I),(fun _=>I),Q⟩,I,I,I,fun sg=>bB I (EffOK.fr2 (cZ cF I (qI xw) I (Y I) (Y I)))⟩,
      Q⟩⟩⟩⟩⟩⟩⟩⟩⟩⟩⟩⟩⟩⟩⟩⟩⟩⟩⟩ (fun sg=>?_)
     refine(show RG _ _ _ _ [_,_,_] _ from ?_);refine bz 1 uy I<|bX cF xv I<|bu<|db hx1 hN1 I<|fY<|fY ?_;exact aM (aE (ih1 (i2+1) (iJ.mk ({b2 with first:=(min b2.first e5.first)}:iJ).first (max b2.depth (IntKind.i64.wrap (e5.depth+(1:Int))))) ⟨cW hx1,h⟩) (be I))

end Go.Proofs.YthbdkceckjihgaaGreatDoor

