import Derived.Test.YtadeokalnbmppaaGreatDoorReT
import Derived.Test.YtadeokalnbmppaaGreatDoorReP6
set_option linter.all false
namespace Go.Proofs.YtadeokalnbmppaaGreatDoor
open Go IntKind Tryz EffOK
set_option maxRecDepth 100000
def Qi of n_{R}(h:qL of n_=some R):cN aL 74 [gM of,gM n_] (tT [gM R.1,gp R.2]):=by
 refine dL func74 J<|aV<|lU bY<|bn<|bA<|aV<|cr false bY 3<|M (bL xq)<|bA<|bc<|aQ J<|cm dI J<|M (bH hI)<|bA<|am<|aR (k:=10) J fun hN=>bE ?_;refine aE (qb (h3:=fun ls i out l c=>(of.drop i=ls)/\pj of n_ ls out=some R) (Of:=fun _ i out l c=>[fa bY 3 l c out]) (Gf:=fun _ i out l c=>[(0,gM of),(1,gM n_),(6,s5 l c out),(10,gM of),(11,jg of),(12,bX (i:Int))]) (fun i out l c h=>?_) (fun e tl ih i out l c h=>?_) of 0 vH none 0 ⟨J,h⟩) (aX J)
 ·obtain⟨I,h⟩:=h;refine dH I J<|ax<|aB J<|aQ J<|cm dI J<|M (fR (Y J) hI)<|fX J<|bz J ?_;exact gQ<|d6 6 J<|d6 26 J<|d6 4 J<|n6 4 J<|aJ<|so h▸ff J J J
 ·obtain⟨I,h⟩:=h;refine dG I J<|aw<|am<|aV<|dN dI bN J (dE I)<|aU J<|aB J<|aQ J<|cy h fun r F_ h=>?_;refine M (cq Wq (Lo _ _ F_) ⟨(Y J),(Y J),aW⟩)<|aU J<|bc<|aQ J<|M (gA (Y J) hI)<|cD h J (fun h=>?_) (fun h=>?_)
  ·exact aV<|lU bY<|bn<|bO<|ai<|dB<|ai<|dB<|aJ<|so h▸ff J J J
  ·refine kp<|au<|aQ J<|aQ J<|M (aI (r:=bY) (ys:=[r]) (xs:=[.tmp 22]) dI bN J J J J J ⟨(Y J),aW⟩)<|cy h fun g_ q_out1 h=>ea bN J J J J dI J J (Y J) (Y J) q_out1 fun l1 c1=>fX J<|bm<|dg I hN J ?_;exact aT (aE (ih (i+1) g_ l1 c1 ⟨cV I,h⟩) (aX J))
def adh(b:Nat)(ix:OI) p n j' l{R}(h:kf p n j' l=some R):dj aL 42 [tV (an b 0),tD al n,gM j',fI (aq) l] (jW b p ix) (fun _:OI=>tD aq R) (fun _=>(jW b p ix)):=by
 refine dj.of func42 J J J fun w0 S0=>?_;refine(show CG _ _ _ [bx (rH bB [(0,ak (ix.h 0).1 (ix.h 0).2 p.c_.J'.length),(3,ak (ix.h 1).1 (ix.h 1).2 p.j'.length)]) 73 b p,dM bk 50 (ix.h 0).1 (ix.h 0).2 p.c_.J',dM gG 40 (ix.h 1).1 (ix.h 1).2 p.j'] _ from ?_);refine aV<|cR J<|aO cj iC J fun b1=>bA<|aV<|bg qT lH zP J<|cm s7 J<|cy h fun mk q_mk h=>nI (Wf (r:=bY) (x:=0) bN J J J dI (fun _=>J) (Y J) (Y J) q_mk) J fun i=>aU J<|bc<|bg qT lH zP J<|cm s7 J<|M (bH hI)<|bm ?_;refine ax<|am<|aR (k:=19) J fun hN=>bE ?_;refine aE (qc (h3:=fun ls i1 bare=>(n.N'.drop i1=ls)/\dw n j' l ls i1 bare=some R) (Of:=fun _ i1 bare=>[fa bY 3 (i.h 0).1 (i.h 0).2 bare,bx aq 77 b1 vz,bx (rH bB [(0,ak (ix.h 0).1 (ix.h 0).2 p.c_.J'.length),(3,ak (ix.h 1).1 (ix.h 1).2 p.j'.length)]) 73 b p,dM bk 50 (ix.h 0).1 (ix.h 0).2 p.c_.J',dM gG 40 (ix.h 1).1 (ix.h 1).2 p.j']) (Gf:=fun _ i1 bare=>[(2,gM j'),(3,fI (aq) l),(5,aY al n),(8,tV (an b1 0)),(9,s5 (i.h 0).1 (i.h 0).2 bare),(19,fI (cg) n.N'),(20,jg n.N'),(21,bX (i1:Int))]) (fun i1 bare h=>?_) (fun e tl ih i1 bare h=>?_) n.N' 0 mk ⟨J,h⟩) (aX J)
 ·obtain⟨I,h⟩:=h;refine dH I J<|ax<|aB J<|cy h fun e1 s_ h=>M (aS n7 cj J (Y J) hI s_)<|bg ss nj bK J<|aQ J<|qo<|rQ 9 J<|rQ 55 J ?_;refine eG h acc (Qi _ _) ⟨(Y J),(nt (Y J)),aW⟩ fun r h=>aQ J<|dq J J<|dq J J<|fX J<|aU J<|aw<|cy h fun r1 Y_ h=>cy h fun r2 q_r2 h=>?_;refine mS 9 (ts:=[tD al n,gM j',fI (aq) l,aY aq e1,tD aq e1,fI (aq) ([e1]),tD aq r1,gM r.1,tD aq r2]) mixed J J J
   ⟨oU 5 J J (m9 dc J J),
   ⟨fg J J,
   ⟨fg J J,
   ⟨dy 61 2 J J (aS n7 cj J (Y J) hI s_),
   ⟨gH 3 cj J J,
   ⟨dy 63 4 J J (aI (r:=aq) (ys:=[e1]) (xs:=[.tmp 63]) n7 cj J J J J J ⟨(Y J),aW⟩),
   ⟨E9 59 0 60 1 64 5 J J J J (cq DL (tM _ _ _ Y_) ⟨(Y J),(Y J),(Y J),aW⟩),
   ⟨fg J J,
   ⟨eQ 65 6 66 7 J J J (cq NX (AI _ _ q_r2) ⟨(Y J),(Y J),aW⟩),
   aW⟩⟩⟩⟩⟩⟩⟩⟩⟩ ?_
  exact bM<|bv cj ae J<|aH 8 J<|bO<|aJ<|ah<|ah<|ah<|so h▸lx J cj J J J rs J J
 ·obtain⟨I,h⟩:=h;refine dG I J<|aw<|am<|aB J<|dN s7 jM J (dE I)<|aO jM te J fun b2=>fX J<|bv jM ae J<|aH 11 J<|bA<|aw ?_;refine au<|aQ J<|aQ J<|cy h fun e2 M_ h=>M (c9 dI bN (.head _) (Y J) (Y J) M_)<|cy h fun st R_ h=>pw bN J ae J M_ (so R_) (Y J) hI<|ir (gS (so R_)) 9 J<|ir (gS (so R_)) 26 J<|bA<|aV<|bg gI dF pC J<|cm oD J<|cz J<|aQ J<|cy h fun t Z_ h=>aj J (cZ gI dF J J)<|aj J (cG pC J J) ?_;obtain⟨e3,B_,h0t⟩:=og Z_;have q_e3g:=fun K=>(B_ K).1;refine aj J (fun H=>aS oD hM J (br J H) hI (q_e3g H))<|aj J (fun H=>dP ow J je J (br J H))<|aj J (cG bN J J)<|aj J (iu J)<|M (dW (Y J) (fun K=>(br J K)) (fun K=>(B_ K).2) h0t)<|cD h J (fun h=>?_) (fun h=>?_)
  ·refine au<|aQ J<|aQ J<|bg gI dF pC J<|cy h fun e4 q_e4 h=>M (aS oD hM J (Y J) hI q_e4)<|bg rY mL bN J<|cy h fun e5 q_e5 h=>M (c9 dI bN (.head _) (Y J) (Y J) q_e5)<|cy h fun st1 q_st1 h=>pw bN J ae J q_e5 (so q_st1) (Y J) (Y J)<|ir (gS (so q_st1)) 9 J<|ir (gS (so q_st1)) 26 J<|ir (gS (so q_st1)) 41 J<|bm<|dg I hN J ?_;exact aT (aE (ih (i1+1) st1 ⟨cV I,h⟩) (aX J))
  ·refine bl<|dg I hN J ?_;exact aT (aE (ih (i1+1) st ⟨cV I,h⟩) (aX J))
def Yc s f{R}(h:js s f=some R):cN aL 172 [fI (bJ) s,(iM aL WW qw (fun(x:bw)=>f x))] (bX R):=by
 refine dL func172 J<|aV<|cM<|bA<|bc<|aQ J<|cm oD J<|M (bH hI)<|bA<|am<|aR (k:=6) J fun hN=>bE ?_;refine aE (fj (h3:=fun ls i=>(s.drop i=ls)/\ed f ls i=some R) (Of:=fun _ i=>[]) (Gf:=fun _ i=>[(0,fI (bJ) s),(1,(iM aL WW qw (fun(x:bw)=>f x))),(7,jg s),(8,bX (i:Int))]) (fun i h=>?_) (fun e tl ih i h=>?_) s 0 ⟨J,h⟩) (aX J)
 ·obtain⟨I,h⟩:=h;exact dH I J<|ax<|aV<|jK<|so h▸aD J J
 ·obtain⟨I,h⟩:=h;refine dG I J<|aw<|am<|aB J<|aU J<|aB J<|aQ J<|aQ J<|vA oD hM J (dE I) ?_;refine cx hM J<|cy h fun r F_ h=>M (kE (args:=WW) (res:=FY) (f:=(fun(x:bw)=>f x)) (x:=((e):bw)) (Y J) F_ ⟨(Y J),aW⟩)<|cD h J (fun h=>?_) (fun h=>?_)
  ·exact aB J<|bz J<|dB<|ai<|dB<|so h▸aD J J
  ·refine bl<|dg I hN J ?_;exact aT (aE (ih (i+1) ⟨cV I,h⟩) (aX J))
def Yq s f{R}(h:fF s f=some R):cN aL 145 [fI (bJ) s,(iM aL WW qw (fun(x:bw)=>f x))] (gp R):=by
 exact dL func145 J<|aV<|bn<|bA<|aB J<|aQ J<|eG h adQ (Yc _ _) (cA J) fun r h=>M (eT (Y J) hI)<|bz J<|so h▸aD J J
def Yp n{R}(h:vf n=some R):cN aL 146 [tD bJ n] (gp R):=by
 exact dL func146 J<|aV<|cR J<|bn<|bA<|aV<|bg ow je bN J<|eG h ZE (RR _) (cA J) fun r h=>bz J<|so h▸aD J J
def VS e{R}(h:uw e=some R):cN aL 97 [tD cg e] (gp R):=by
 refine dL func97 J<|aV<|cR J<|bn<|bA<|aV<|cx jM J<|eG h R1 (GD _) (cA J) fun r h=>cz J<|aQ J<|cy h fun t Z_ h=>aj J (cZ gI dF J J)<|aj J (cG pC J J) ?_;obtain⟨r1,B_,h0t⟩:=og Z_;have q_r1g:=fun K=>(B_ K).1;exact aj J (fun H=>cq ad5 (Yq _ _ (q_r1g H)) ⟨(br J H),(Ii ad4 fun x y h=>Yp _ h),aW⟩)<|aj J (wj J)<|M (dW (Y J) (fun K=>(br J K)) (fun K=>(B_ K).2) h0t)<|bz J<|so h▸aD J J
def RI e{R}(h:wd e=some R):mi aL 98 [tD cg e] false cg 43 R:=by
 refine mi.of func98 J J J fun w0 S0=>aV<|cR J<|cr false cg 43<|M (bL xq)<|bA<|aV<|cx jM J<|eG h ZD (RQ _) (cA J) fun r h=>aQ J<|dq J J<|dq J J<|fX J<|aU J<|bc<|aQ J ?_;refine M (gz (Y J))<|cD h J (fun h=>?_) (fun h=>?_)
 ·exact aV<|cr false cg 43<|M (bL xq)<|bO<|ai<|so h▸lR J J
 ·refine kp<|aV<|cr false cg 43<|M (bL xq)<|bA<|aV<|bg gI dF pC J<|cm oD J<|M (ij (Y J) hI)<|pF (r:=bY) (ys:=[(i64.wrap ((e.u'.length:Int)-1))]) (xs:=[.tmp 23]) dI bN J J J J J ⟨(Y J),aW⟩ J fun l c=>aU J<|aw<|am<|bE<|qq<|r0<|gE ?_;refine aE (Sl (h3:=fun n out l1 c1 open1 l2 c2=>kJ e r n out open1=some R) (Of:=fun out l1 c1 open1 l2 c2=>[fa cg 43 l1 c1 out,fa bY 3 l2 c2 open1]) (Gf:=fun out l1 c1 open1 l2 c2=>[(1,aY cg e),(3,gM r.1),(5,s5 l1 c1 out),(6,s5 l2 c2 open1)]) (fun out l1 c1 open1 l2 c2 h=>nn h) (fun n ih out l1 c1 open1 l2 c2 h=>?_) ko ([]:List bD) none 0 ([(i64.wrap ((e.u'.length:Int)-1))]) l c h) (aX J);refine lI<|bc<|aQ J<|M (iF dI (.tail _ (.head _)) (Y J))<|M (fR (Y J) hI)<|cD h J (fun h=>?_) (fun h=>?_)
  ·refine kp ?_;refine EW (h3:=fun g_ l3 c3 open2 l4 c4=>tQ (kJ e r n) g_ open2=some R) (Of:=fun g_ l3 c3 open2 l4 c4=>[fa cg 43 l3 c3 g_,fa bY 3 l4 c4 open2]) (Gf:=fun g_ l3 c3 open2 l4 c4=>[(1,aY cg e),(3,gM r.1),(5,s5 l3 c3 g_),(6,s5 l4 c4 open2)]) (fun g_ l3 c3 open2 l4 c4 h=>?_) (fun hb=>?_)
   ·skip;exact aT (aE (ih g_ l3 c3 open2 l4 c4 h) (aX J))
   ·skip;refine aB J<|aQ J<|M (iF dI (.tail _ (.head _)) (Y J))<|M (ij (Y J) hI)<|cy h fun e1 s_ h=>M (c9 dI bN (.tail _ (.head _)) (Y J) (Y J) s_)<|M (il (r:=bY) (i:=(i64.wrap ((open1.length:Int)-1))) (J_:=0) bN J J bC J (.tail _ (.head _)) s_ (Y J))<|aU J<|aB J<|aQ J<|M (iF dI (.tail _ (.head _)) (Y J))<|M (ij (Y J) hI)<|cy h fun y q_y h=>M (qO dI bN J (.tail _ (.head _)) (Y J) (Y J) q_y)<|bM<|H5 q_y<|fX J<|bm ?_;refine ax<|aV<|bg gI dF pC J<|aQ J<|cy h fun e2 M_ h=>dN oD hM J M_<|aO hM tf J fun b=>bv hM ae J<|aH 8 J<|bA<|bc<|bg ow je bN J<|cz J<|cD h J (fun h=>?_) (fun h=>?_)
    ·refine aB J<|bg Dz zk bN J<|bg DA zl bN J<|M (aI (r:=bY) (ys:=[e2.R,e2.L]) (xs:=[.tmp 49,.tmp 51]) dI bN J J J J J ⟨(Y J),(Y J),aW⟩)<|cy h fun open3 q_open3 h=>ea bN J J J J dI J J (Y J) (Y J) q_open3 fun l5 c5=>aU J<|iN<|aN<|dY<|bj ?_;exact bQ (hb out l1 c1 open3 l5 c5 h) (aX J)
    ·refine kp<|aB J<|aQ J<|cy h fun e3 P_ h=>dN dI bN J P_<|aU J<|aV<|bg gI dF pC J<|aQ J<|aQ J<|M (nT (Y J) hI)<|cy h fun y1 q_y1 h=>M (Tf oD hM J (Y J) (Y J) (Y J) q_y1)<|t7 h YS (Lm _) (cA J) fun r1 h l6 c6=>M (dl (y:=sP (⟨r1⟩:bD) (ak l6 c6 r1.length)) jM aaS IW (⟨_,_,_,_,_,J,Mm,J,(Ih (Y J)),J⟩)) ?_;refine cr false bJ 107<|aO (r:=qf) (x:=sP (⟨[]⟩:bD) (ak none 0 (([]:List bw).length))) jM IW J fun b1=>f9 (r' :=qf) jM J (o6 J) J (Y J) (Y J)<|bM<|LE<|bA<|bc<|bI 0 gI J<|M (jH pC Fy (.head _) J (Y J))<|M (iF oD (.tail _ (.head _)) (Y J))<|M (bH hI)<|bA<|am<|oB (.tail _ (.head _)) fun hN=>bE<|gE<|gE<|qq<|fK ?_;refine aE (qc (h3:=fun ls i part=>(r1.drop i=ls)/\mX (kJ e r n) out y e3 ls i part=some R) (Of:=fun _ i part=>[fa cg 43 l1 c1 out,fa bY 3 l2 c2 y,bx qf 43 b1 (sP part (ak l6 c6 part.u'.length)),fa bJ 107 l6 c6 part.u']) (Gf:=fun _ i part=>[(1,aY cg e),(3,gM r.1),(5,s5 l1 c1 out),(6,s5 l2 c2 y),(9,bX e3),(10,tV (an b1 0)),(68,jg r1),(69,bX (i:Int))]) (fun i part h=>?_) (fun e4 tl ih1 i part h=>?_) r1 0 (⟨r1⟩:bD) ⟨J,h⟩) (aX J)
     ·obtain⟨I,h⟩:=h;refine dH I J<|ax<|au<|aQ J<|eh<|qo<|M (wA (q:=cg) (y:=part) jM J J J J (.tail _ (.tail _ (.tail _ (.head _)))) (fun _ _ _ ho h=>H0 (nM ho (.head _)) h) (Y J))<|M (aI (r:=cg) (ys:=[part]) (xs:=[.tmp 104]) s7 jM J J J J J ⟨(Y J),aW⟩)<|bM<|cy h fun out2 q_out2 h=>ea jM J J J J s7 J J (Y J) (Y J) q_out2 fun l7 c7=>fX J<|bm ?_;refine bf<|bj<|aJ<|ah<|aJ ?_;exact bQ (hb out2 l7 c7 y l2 c2 h) (aX J)
     ·obtain⟨I,h⟩:=h;refine dG I J<|aw<|am<|aB J<|aU J<|aV<|bI 0 gI J<|M (jH pC Fy (.tail _ (.tail _ (.head _))) J (Y J))<|aQ J<|cy h fun e5 q_e5 h=>?_;refine M (c9 oD hM (.tail _ (.tail _ (.tail _ (.head _)))) (Y J) (Y J) q_e5)<|aU J ?_;refine fL (h3:=fun part1=>tP e3 (mX (kJ e r n) out y e3 tl) i part1=some R) (Of:=fun part1=>[fa cg 43 l1 c1 out,fa bY 3 l2 c2 y,bx qf 43 b1 (sP part1 (ak l6 c6 part1.u'.length)),fa bJ 107 l6 c6 part1.u']) (Gf:=fun part1=>[(1,aY cg e),(3,gM r.1),(5,s5 l1 c1 out),(6,s5 l2 c2 y),(9,bX e3),(10,tV (an b1 0)),(12,tV (qv l6 ((i:Int).toNat*8+0))),(68,jg r1),(69,bX (i:Int))]) (fun part1 h=>?_) (fun K1=>?_)
      ·skip;refine aB J<|cy h fun e6 q_e6 h=>M (Ba (.tail _ (.tail _ (.tail _ (.head _)))) q_e6 (Y J))<|M (jh (o:=(i:Int).toNat*8+0) (n:=(i:Int).toNat*8+2) Dz J (.tail _ (.tail _ (.tail _ (.head _)))) q_e6 (Y J) J)<|M (il (r:=bJ) (i:=(i:Int)) (J_:=2) bN J J zk J (.tail _ (.tail _ (.tail _ (.head _)))) q_e6 (Y J))<|M (eT (Y J) hI)<|cD h J (fun h=>?_) (fun h=>?_)
       ·refine au<|aQ J<|M (Ba (.tail _ (.tail _ (.tail _ (.head _)))) q_e6 (Y J))<|M (jh (o:=(i:Int).toNat*8+0) (n:=(i:Int).toNat*8+2) Dz J (.tail _ (.tail _ (.tail _ (.head _)))) q_e6 (Y J) J)<|M (il (r:=bJ) (i:=(i:Int)) (J_:=2) bN J J zk J (.tail _ (.tail _ (.tail _ (.head _)))) q_e6 (Y J))<|aQ J<|M (ij (Y J) (Y J))<|M (Ba (.tail _ (.tail _ (.tail _ (.head _)))) q_e6 (Y J))<|M (jh (o:=(i:Int).toNat*8+0) (n:=(i:Int).toNat*8+2) Dz J (.tail _ (.tail _ (.tail _ (.head _)))) q_e6 (Y J) J)<|eh<|cy h fun st R_ h=>pw bN J Ph J q_e6 (so R_) (Y J) (Y J)<|yz (O' :=[fa bJ 107 l6 c6 st,fa cg 43 l1 c1 out,fa bY 3 l2 c2 y,bx qf 43 b1 (sP part1 (ak l6 c6 st.length))]) (by first|(rw [gS (so R_)];done)|(rw [gS (so R_)];exact J)|exact J)<|bm<|dg I hN J<|aM<|aM<|aM ?_;exact aT (aE (ih1 (i+1) ({part1 with u':=st}:bD) ⟨cV I,h⟩) (aX J))
       ·refine bl<|dg I hN J ?_;exact aT (aE (ih1 (i+1) part1 ⟨cV I,h⟩) (aX J))
      ·skip;refine aB J<|M (Ba (.tail _ (.tail _ (.tail _ (.head _)))) q_e5 (Y J))<|M (jh (o:=(i:Int).toNat*8+0) (n:=(i:Int).toNat*8+1) DA J (.tail _ (.tail _ (.tail _ (.head _)))) q_e5 (Y J) J)<|M (il (r:=bJ) (i:=(i:Int)) (J_:=1) bN J J zl J (.tail _ (.tail _ (.tail _ (.head _)))) q_e5 (Y J))<|M (eT (Y J) hI)<|cD h J (fun h=>?_) (fun h=>?_)
       ·refine au<|aQ J<|M (Ba (.tail _ (.tail _ (.tail _ (.head _)))) q_e5 (Y J))<|M (jh (o:=(i:Int).toNat*8+0) (n:=(i:Int).toNat*8+1) DA J (.tail _ (.tail _ (.tail _ (.head _)))) q_e5 (Y J) J)<|M (il (r:=bJ) (i:=(i:Int)) (J_:=1) bN J J zl J (.tail _ (.tail _ (.tail _ (.head _)))) q_e5 (Y J))<|aQ J<|M (ij (Y J) (Y J))<|M (Ba (.tail _ (.tail _ (.tail _ (.head _)))) q_e5 (Y J))<|M (jh (o:=(i:Int).toNat*8+0) (n:=(i:Int).toNat*8+1) DA J (.tail _ (.tail _ (.tail _ (.head _)))) q_e5 (Y J) J)<|eh<|cy h fun st1 q_st1 h=>pw bN J Pi J q_e5 (so q_st1) (Y J) (Y J)<|ir (gS (so q_st1)) 73 J<|yz (O' :=[fa bJ 107 l6 c6 st1,fa cg 43 l1 c1 out,fa bY 3 l2 c2 y,bx qf 43 b1 (sP part (ak l6 c6 st1.length))]) (by first|(rw [gS (so q_st1)];done)|(rw [gS (so q_st1)];exact J)|exact J)<|bm<|aM<|aM<|aM ?_;exact bQ (K1 ({part with u':=st1}:bD) h) (aX J)
       ·refine bl ?_;exact bQ (K1 part h) (aX J)
  ·exact iN<|aN<|aN<|dY<|ax<|aB J<|bz J<|so h▸lR J J
def VR e left{R}(h:wc e left=some R):cN aL 99 [tD cg e,bX left] (tT [bX R.1,bX R.2.1,gp R.2.2]):=by
 refine dL func99 J<|aV<|cR J<|cM<|cM<|bn<|bA<|bc<|cx jM J<|eG h R1 (GD _) (cA J) fun r h=>mn J<|aQ J<|aC J (cZ gI dF J J)<|aC J (cG pC J J)<|aC J (fM oD J)<|aC J (uV J)<|fV J<|aQ J<|cy h fun t Z_ h=>?_;refine aC J (cZ gI dF J J)<|aC J (cG pC J J) ?_;obtain⟨e1,B_,h0t⟩:=og Z_;have q_e1g:=fun K=>(B_ K).1;refine aC J (fun H=>aS oD hM J (br J H) hI (q_e1g H))<|aC J (fun H=>dP ow J je J (br J H))<|aC J (cG bN J J)<|aC J (uV J)<|M (iz (Y J) (fun K=>(br J (sn K))) (fun K=>(B_ K).2) h0t)<|cD h J (fun h=>?_) (fun h=>?_)
 ·exact aV<|cM<|cM<|bn<|bO<|ai<|so h▸tY J J J J
 ·refine kp<|aw<|cy h fun e2 M_ h=>cy h fun e3 P_ h=>?_;refine Ie 11 [tc (aY Sr e.u'),tc (fI (bJ) e.u'),tc (aY bJ e2),tc (tD bJ e2),tc (aY Sr e.u'),tc (fI (bJ) e.u'),tc (aY bJ e3),tc (tD bJ e3),([8],fun s=>tV (an ((s.getD 0 rs).h 0).2 0)),([9],fun s=>tV (an ((s.getD 0 rs).h 0).2 0)),tc (CZ)] [false,false,false,false,false,false,false,false,true,true,true] [([],fun _=>[]),([8],fun sg=>[bx bJ 107 ((sg 8).h 0).2 OK]),([9],fun sg=>[bx bJ 107 ((sg 9).h 0).2 OK]),([8,9],fun sg=>[bx bJ 107 ((sg 9).h 0).2 OK,bx bJ 107 ((sg 8).h 0).2 OK]),([8,9,10],fun sg=>[bx bJ 107 ((sg 8).h 0).2 e2,bx bJ 107 ((sg 9).h 0).2 OK])] (fun _=>J) mixed J J J J
   ⟨⟨[⟨2,fun _=>aY cg e,none⟩],_,[[],[8],[9],[8,9]],J,⟨(fun _=>J),aW⟩,J,J,J,J,J,⟨fun sg=>aa J (mj gI dF J J),fun sg=>aa J (mj gI dF J J),fun sg=>aa J (mj gI dF J J),fun sg=>aa J (mj gI dF J J),aW⟩⟩,
   ⟨⟨[⟨28,fun _=>aY Sr e.u',some 0⟩],_,[[],[8],[9],[8,9]],J,⟨(fun _=>J),aW⟩,J,J,J,J,J,⟨fun sg=>aa J (m9 pC J J),fun sg=>aa J (m9 pC J J),fun sg=>aa J (m9 pC J J),fun sg=>aa J (m9 pC J J),aW⟩⟩,
   ⟨⟨[⟨29,fun _=>tD Sr e.u',some 1⟩],_,[[],[8],[9],[8,9]],J,⟨(fun _=>J),aW⟩,J,J,J,J,J,⟨fun sg=>aa J (aS oD hM J (Y J) hI M_),fun sg=>aa J (aS oD hM J (Y J) hI M_),fun sg=>aa J (aS oD hM J (Y J) hI M_),fun sg=>aa J (aS oD hM J (Y J) hI M_),aW⟩⟩,
   ⟨⟨[⟨30,fun _=>aY bJ e2,some 2⟩],_,[[],[8],[9],[8,9]],J,⟨(fun _=>J),aW⟩,J,J,J,J,J,⟨fun sg=>aa J (m9 hM J J),fun sg=>aa J (m9 hM J J),fun sg=>aa J (m9 hM J J),fun sg=>aa J (m9 hM J J),aW⟩⟩,
   ⟨⟨[⟨2,fun _=>aY cg e,none⟩],_,[[],[8],[9],[8,9],[8,9,10]],J,⟨(fun _=>J),aW⟩,J,J,J,J,J,⟨fun sg=>aa J (mj gI dF J J),fun sg=>aa J (mj gI dF J J),fun sg=>aa J (mj gI dF J J),fun sg=>aa J (mj gI dF J J),fun sg=>aa J (mj gI dF J J),aW⟩⟩,
   ⟨⟨[⟨32,fun _=>aY Sr e.u',some 4⟩],_,[[],[8],[9],[8,9],[8,9,10]],J,⟨(fun _=>J),aW⟩,J,J,J,J,J,⟨fun sg=>aa J (m9 pC J J),fun sg=>aa J (m9 pC J J),fun sg=>aa J (m9 pC J J),fun sg=>aa J (m9 pC J J),fun sg=>aa J (m9 pC J J),aW⟩⟩,
   ⟨⟨[⟨33,fun _=>tD Sr e.u',some 5⟩],_,[[],[8],[9],[8,9],[8,9,10]],J,⟨(fun _=>J),aW⟩,J,J,J,J,J,⟨fun sg=>aa J (aS oD hM J (Y J) hI P_),fun sg=>aa J (aS oD hM J (Y J) hI P_),fun sg=>aa J (aS oD hM J (Y J) hI P_),fun sg=>aa J (aS oD hM J (Y J) hI P_),fun sg=>aa J (aS oD hM J (Y J) hI P_),aW⟩⟩,
   ⟨⟨[⟨34,fun _=>aY bJ e3,some 6⟩],_,[[],[8],[9],[8,9],[8,9,10]],J,⟨(fun _=>J),aW⟩,J,J,J,J,J,⟨fun sg=>aa J (m9 hM J J),fun sg=>aa J (m9 hM J J),fun sg=>aa J (m9 hM J J),fun sg=>aa J (m9 hM J J),fun sg=>aa J (m9 hM J J),aW⟩⟩,
   ⟨⟨[],_,[([],[8]),([9],[8,9])],J,aW,J,J,J,J,J,⟨fun sg=>cL J (km hM tf),fun sg=>cL J (post_imp (post:=fun x__=>(fun(sg:Nat->OI)=>[bx bJ 107 ((sg 8).h 0).2 OK,bx bJ 107 ((sg 9).h 0).2 OK]) (SA sg 8 x__)) (km hM tf) (fun h=>dR.pick [1,0] J h)),aW⟩⟩,
   ⟨⟨[],_,[([],[9]),([8],[8,9])],J,aW,J,J,J,J,J,⟨fun sg=>cL J (km hM tf),fun sg=>cL J (km hM tf),aW⟩⟩,
   ⟨⟨[⟨7,fun sg=>tV (an ((sg 8).h 0).2 0),some 8⟩,⟨31,fun _=>tD bJ e2,some 3⟩],_,[([8,9],[8,9,10])],J,⟨(fun _=>J),(fun _=>J),aW⟩,J,J,J,J,J,⟨fun sg=>cL J (fr1 (gD hM J (yV ae) J (Y J) (Y J))),aW⟩⟩,
   aW⟩⟩⟩⟩⟩⟩⟩⟩⟩⟩⟩ (fun sg=>?_)
  refine(show RG _ _ _ _ [_,_] _ from ?_);refine aH 7 J<|bv hM ae J<|aH 8 J<|bA<|bc<|bg ow je bN J<|mn J<|aQ J<|aC J (cZ ow je J J)<|aC J (cG bN J J)<|aC J (uV J)<|fV J<|cD h J (fun h=>?_) (fun h=>?_)
  ·exact aV<|cM<|cM<|bn<|bO<|ai<|so h▸tY J J J J
  ·refine kp<|aw ?_;refine eE (ts:=[_,_,_,_,_,_,_,_,_,_,_,_]) mixed J J
    ⟨oU 7 J J (mj rY mL J J),
    ⟨gH 0 bN J J,
    ⟨oU 8 J J (mj rY mL J J),
    ⟨gH 2 bN J J,
    ⟨eQ 45 1 47 3 J J J (Rn (Y J) (Y J)),
    ⟨oU 7 J J (mj rY mL J J),
    ⟨gH 5 bN J J,
    ⟨oU 8 J J (mj rY mL J J),
    ⟨gH 7 bN J J,
    ⟨eQ 50 6 52 8 J J J (KM (Y J) (Y J)),
    ⟨dy 48 4 J J (yO J),
    ⟨dy 53 9 J J (yO J),
    aW⟩⟩⟩⟩⟩⟩⟩⟩⟩⟩⟩⟩ ?_
   refine ax<|bc<|aQ J<|aQ J<|M (eT (Y J) (Y J))<|aQ J<|aC J (cY J)<|aC J (cY J)<|aC J (fun H=>gA (br J H) (br J H))<|fV J<|cD h J (fun h=>?_) (fun h=>?_)
   ·exact aV<|cM<|cM<|bn<|bO<|ai<|so h▸tY J J J J
   ·exact kp<|aB J<|aQ J<|aQ J<|M (ij (Y J) (Y J))<|fX J<|fX J<|bn<|bO<|so h▸tY J J J J
def aa9 cond left{R}(h:yZ cond left=some R):cN aL 75 [tD cg cond,bX left] (tT [gM R.1,gM R.2]):=by
 refine dL func75 J<|aV<|cR J<|lU bY<|lU bY<|bA<|aV<|cr false bY 3<|M (bL xq)<|cr false bY 3<|M (bL xq)<|bA<|bc<|cx jM J<|t7 h adq (RI _) (cA J) fun r h l c=>M (iF s7 (.head _) (Y J))<|M (bH hI) ?_;refine bA<|am<|oB (.head _) fun hN=>bE<|gE<|qq ?_;refine aE (DY (h3:=fun ls i a1 l1 c1 b l2 c2=>(r.drop i=ls)/\m5 left ls a1 b=some R) (Of:=fun _ i a1 l1 c1 b l2 c2=>[fa bY 3 l1 c1 a1,fa bY 3 l2 c2 b,fa cg 43 l c r]) (Gf:=fun _ i a1 l1 c1 b l2 c2=>[(1,bX left),(6,s5 l1 c1 a1),(7,s5 l2 c2 b),(14,s5 l c r),(15,jg r),(16,bX (i:Int))]) (fun i a1 l1 c1 b l2 c2 h=>?_) (fun e tl ih i a1 l1 c1 b l2 c2 h=>?_) r 0 vH none 0 vH none 0 ⟨J,h⟩) (aX J)
 ·obtain⟨I,h⟩:=h;refine dH I J<|ax<|aB J<|aQ J<|fX J<|bz J<|gQ<|d6 6 J ?_;exact d6 44 J<|d6 4 J<|n6 4 J<|bj<|gQ<|d6 7 J<|d6 45 J<|d6 5 J<|n6 5 J<|aJ<|aJ<|aJ<|so h▸ff J J J
 ·obtain⟨I,h⟩:=h;refine dG I J<|aw ?_;refine EW (h3:=fun a2 l3 c3 b1 l4 c4=>uM (m5 left tl) a2 b1=some R) (Of:=fun a2 l3 c3 b1 l4 c4=>[fa bY 3 l3 c3 a2,fa bY 3 l4 c4 b1,fa cg 43 l c r]) (Gf:=fun a2 l3 c3 b1 l4 c4=>[(1,bX left),(6,s5 l3 c3 a2),(7,s5 l4 c4 b1),(14,s5 l c r),(15,jg r),(16,bX (i:Int))]) (fun a2 l3 c3 b1 l4 c4 h=>?_) (fun hb=>?_)
  ·skip;refine ax<|au<|M (zin (JR I hN) J)<|aQ J<|bm ?_;exact aT (aE (ih (i+1) a2 l3 c3 b1 l4 c4 ⟨cV I,h⟩) (aX J))
  ·skip;refine aV<|M (c9 s7 jM (.tail _ (.tail _ (.head _))) (Y J) (Y J) (dE I))<|M (il (r:=cg) (i:=(i:Int)) (J_:=0) jM J J bC J (.tail _ (.tail _ (.head _))) (dE I) (Y J))<|aO jM te J fun b2=>bv jM ae J<|aH 9 J<|bA<|aV<|cx jM J<|aQ J<|eG h adp (VR _ _) (cA J) fun r1 h=>aQ J<|dq J J<|dq J J<|dq J J<|fX J<|fX J<|aU J ?_;refine bc<|aQ J<|M (gz (Y J))<|cD h J (fun h=>?_) (fun h=>?_)
   ·refine bc<|cx jM J<|eG h adr (VS _) (cA J) fun r2 h=>M (gz (Y J))<|cD h J (fun h=>?_) (fun h=>?_)
    ·exact aV<|lU bY<|lU bY<|bO<|ai<|ai<|dB<|ai<|dB<|aJ<|aJ<|aJ<|so h▸ff J J J
    ·refine kp<|iN<|aN<|dY ?_;exact bQ (hb a1 l1 c1 b l2 c2 h) (aX J)
   ·refine kp<|aB J<|M (iF dI (.head _) (Y J))<|M (gA (Y J) hI)<|cD h J (fun h=>?_) (fun h=>?_)
    ·refine au<|aQ J<|aQ J<|M (aI (r:=bY) (ys:=[r1.1]) (xs:=[.tmp 36]) dI bN J J J J J ⟨(Y J),aW⟩)<|cy h fun a3 q_a3 h=>ea bN J J J J dI J J (Y J) (Y J) q_a3 fun l5 c5=>aQ J<|aQ J<|M (aI (r:=bY) (ys:=[r1.2.1]) (xs:=[.tmp 40]) dI bN J J J J J ⟨(Y J),aW⟩)<|bM<|cy h fun b3 q_b3 h=>ea bN J J J J dI J J (Y J) (Y J) q_b3 fun l6 c6=>fX J<|fX J<|bm<|bf<|ah<|bj<|ah ?_;exact bQ (hb a3 l5 c5 b3 l6 c6 h) (aX J)
    ·refine bl<|bf ?_;exact bQ (hb a1 l1 c1 b l2 c2 h) (aX J)
