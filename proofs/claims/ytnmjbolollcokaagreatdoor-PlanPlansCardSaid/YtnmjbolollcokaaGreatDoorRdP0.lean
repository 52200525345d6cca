/- dr of this claim: P0. -/
import Derived.Test.YtnmjbolollcokaaGreatDoorRdT
import Derived.Test.YtnmjbolollcokaaGreatDoorRdF
set_option linter.all false
namespace Go.Proofs.YtnmjbolollcokaaGreatDoor
open Go
abbrev Ti:=fun(mc:aG) (mx:af)=>(gB mc mx).map fun mr=>(mr,mc)
abbrev Th:=fun(mc:aG) (mx:af)=>(iw mc mx).map fun mr=>(mr,mc)
abbrev Tm:=fun(mc:aG) (mx:af)=>(gC mc mx).map fun mr=>(mr,mc)
abbrev Tj:=fun(mc:aG) (mx:af)=>(hU mc mx).map fun mr=>(mr,mc)
abbrev Tn:=fun(mc:aG) (mx:af)=>(ge mc mx).map fun mr=>(mr,mc)
abbrev Tp:=fun(mc:aG) (mx:af)=>(fM mc mx).map fun mr=>(mr,mc)
abbrev Tl:=fun(mc:aG) (mx:af)=>(hJ mc mx).map fun mr=>(mr,mc)
abbrev Tk:=fun(mc:aG) (mx:af)=>(hM mc mx).map fun mr=>(mr,mc)
abbrev JK:=fQ (fQ (fQ (fQ (fQ (fQ (fQ (fQ ([]:List (Int×(aG→af→Option (((List Int)×Bool)×aG)))) (1:Int) Ti) (2:Int) Th) (3:Int) Tm) (4:Int) Tj) (5:Int) Tn) (6:Int) Tp) (7:Int) Tl) (8:Int) Tk
abbrev TB:=fun(mc:aO) (mx:af×(List Int)×(List ba))=>(j4 mc mx.1 mx.2.1 mx.2.2).map fun mr=>(mr,mc)
abbrev TC:=fun(mc:aO) (mx:af×(List Int)×(List ba))=>(jf mc mx.1 mx.2.1 mx.2.2).map fun mr=>(mr,mc)
abbrev TD:=fun(mc:aO) (mx:af×(List Int)×(List ba))=>(iE mc mx.1 mx.2.1 mx.2.2).map fun mr=>(mr,mc)
abbrev Tt:=fun(mc:aO) (mx:af×(List Int)×(List ba))=>j5 mc mx.1 mx.2.1 mx.2.2
abbrev Tv:=fun(mc:aO) (mx:af×(List Int)×(List ba))=>jy mc mx.1 mx.2.1 mx.2.2
abbrev Tz:=fun(mc:aO) (mx:af×(List Int)×(List ba))=>ii mc mx.1 mx.2.1 mx.2.2
abbrev Tx:=fun(mc:aO) (mx:af×(List Int)×(List ba))=>jw mc mx.1 mx.2.1 mx.2.2
abbrev Tw:=fun(mc:aO) (mx:af×(List Int)×(List ba))=>jx mc mx.1 mx.2.1 mx.2.2
abbrev Vu:=fQ (fQ (fQ (fQ (fQ (fQ (fQ (fQ ([]:List (Int×(aO→(af×(List Int)×(List ba))→Option (ba×aO)))) (1:Int) TB) (3:Int) TC) (5:Int) TD) (2:Int) Tt) (4:Int) Tv) (6:Int) Tz) (7:Int) Tx) (8:Int) Tw
abbrev nD:=(⟨[]⟩:bf)
abbrev zk:=(⟨(0:Int),(0:Int),(0:Int),(0:Int),[],false,nD,[],[],[],[],(0:Int)⟩:af)
abbrev ky:=(⟨[],[],(0:Int),[]⟩:ba)
abbrev CD:=(⟨(0:Int),(0:Int),(0:Int),[]⟩:df)
abbrev Dl:=(⟨(0:Int),(0:Int),(0:Int),(0:Int),CD⟩:bq)
abbrev cx:=rI .i64
abbrev EG:=fun(x:af×(List Int)×(List ba))=>[tD ah x.1,dI x.2.1,fc (ap) x.2.2]
abbrev qX:=(⟨[],[],[],false,[]⟩:bI)
abbrev yT:=fun(x:(List Int)×Bool)=>tT [dI x.1,gq x.2]
abbrev yH:=fun(x:af)=>[tD ah x]
abbrev mK:=(-1:Int)
abbrev Tq:=(⟨(1:Int),mK,mK,(1:Int),[(2:Int)],false,nD,[],[],[],[],(0:Int)⟩:af)
abbrev Ta:=(⟨(1:Int),nD⟩:ip)
abbrev TA:=(⟨(4:Int),(0:Int),mK,(0:Int),[],false,nD,[],[Ta],[],[],(0:Int)⟩:af)
abbrev QC:=(⟨[Tq,TA]⟩:bR)
abbrev jX:=(⟨[]⟩:dp)
abbrev tS:=fun(x:ba)=>tD ap x
abbrev qr:=fun(x:Bool)=>gq x
abbrev zl:=(⟨[],(0:Int),(0:Int),[]⟩:bK)
abbrev Ac:=fun(x:ca)=>[tD di x]
abbrev oq:=([]:List Int)
abbrev CC:=fun(x:bT)=>[tD dR x]
abbrev yI:=fun(x:jb)=>tD rS x
abbrev JJ:=fun(x:ep×Int)=>[tD gM x.1,cb x.2]
abbrev mJ:=dI ([])
abbrev oS:=fH cx
abbrev Tb:=(⟨[97],(2:Int)⟩:bT)
abbrev Tc:=(⟨[98],(2:Int)⟩:bT)
abbrev Ts:=(⟨[116],[Tb,Tc],[(0:Int)]⟩:ca)
abbrev QB:=fun(x:bq×(List Int))=>[tD bc x.1,dI x.2]
abbrev xf:=fH ah
abbrev Bj:=([]:List bK)
abbrev CB:=([]:List af)
abbrev JI:=fun(x:Bool)=>tD rB x
abbrev zj:=fH aH
abbrev HP:=([]:List (List Int))
abbrev QA:=fun(x:Int×Int)=>tT [cb x.1,cb x.2]
abbrev Oa:=fun(x:bK)=>[tD aH x]
abbrev Tg:=fun(x:bq×(List Int))=>[tD bc x.1,tD oS x.2]
abbrev Bi:=fH ap
abbrev Tf:=(⟨[99],(2:Int)⟩:bT)
abbrev N9:=fun(x:mB)=>[tD kJ x]
abbrev wV:=Ya .i64
abbrev HO:=(⟨[]⟩:bR)
abbrev N8:=(⟨[],(0:Int)⟩:bT)
abbrev N5:=([]:List ip)
abbrev Qz:=aV none 0 (N5.length)
abbrev Qy:=fun(x:bq)=>[tD bc x]
abbrev Te:=fun(x:Int×Int)=>tT [tD cx x.1,tD cx x.2]
abbrev N7:=fun(x:Int)=>[cb x]
abbrev Qx:=(⟨(0:Int),nD⟩:ip)
abbrev Mw:=([]:List bf)
abbrev Td:=(⟨[117],[Tf],[]⟩:ca)
abbrev N6:=([]:List bq)
abbrev Mv:=fH bc
abbrev Mu:=vh cx 2
abbrev S9:=fc (gM) ([])
set_option maxRecDepth 100000

theorem RJ(s:(List Int))(f:(Int→Option Bool)){R:Int}(h:me s f=some R):bo bl 193 [dI s,(kz bl N7 qr (fun(x:Int)=>f x))] (cb R):=by
 refine bo.of Tryz.func193 J J J fun w0 S0=>aw<|zo J (dB)<|au<|ac<|aw<|aE J<|zo J (fW dc J)<|zo J (bQ hI)<|au<|ax<|br (k:=6) J fun hN=>bB ?_;refine aP (em (Z:=fun ls i=>(s.drop i=ls)∧gm f ls i=some R) (Of:=fun _ i=>[]) (Gf:=fun _ i=>[(0,dI s),(1,(kz bl N7 qr (fun(x:Int)=>f x))),(7,jV s),(8,cb (i:Int))]) (fun i h=>?_) (fun e tl ih i h=>?_) s 0 ⟨J,h⟩) (bg J)
 ·obtain⟨hx,h⟩:=h
  refine aB<|aw<|zo J (ft J J)<|au<|ac<|bP (ht J) (dU hx)<|bp ?_;refine ae (ae (aK ?_));refine aq<|aw<|zo rfl (dB)<|au<|ak ?_;cases so h;exact aF J J
 ·obtain⟨hx,h⟩:=h
  refine aB<|aw<|zo J (ft J J)<|au<|ac<|bO (ht J) (dN hx)<|dz<|ac<|ax<|aw<|aE J<|bu J<|au<|aw<|aE J<|aE J<|aE J<|zo J (iQ dc bA J J J (dO hx)) ?_;refine zo J (bm bA J J)<|bz h fun r q_r h=>zo J (lS (args:=(fun(x:Int)=>[tD cx x])) (res:=JI) (f:=(fun(x:Int)=>f x)) (x:=((e):Int)) (ht J) q_r ⟨(ht J),aT⟩)<|au<|cE h J (fun h=>?_) (fun h=>?_)
  ·refine aw<|aE J<|bu J<|au<|ak ?_;refine ay (M (M (ay (M ?_))));cases so h;exact aF J J
  ·refine bk<|an<|aq<|am<|zo rfl (nh (dm hx hN) rfl)<|aE rfl<|aJ ?_;exact be (aP (ih (i+1) ⟨dl hx,h⟩) (bg J))

theorem LJ(s:(List Int))(f:(Int→Option Bool)){R:Bool}(h:eS s f=some R):bo bl 127 [dI s,(kz bl N7 qr (fun(x:Int)=>f x))] (gq R):=by
 refine bo.of Tryz.func127 J J J fun w0 S0=>aw<|zo J (ez)<|au<|aw<|aE J<|aE J<|bz h fun r q_r h=>zo J (aC WX (RJ _ _ q_r) ⟨(ht J),(ht J),aT⟩)<|zo J (cU (ht J) hI)<|bu J<|au<|ak ?_;cases so h;exact aF J J

theorem RE(k:Int){R:Bool}(h:Ci k=some R):bo bl 205 [cb k] (gq R):=by
 refine bo.of Tryz.func205 J J J fun w0 S0=>aw<|zo J (ez)<|au<|aw<|aE J<|zo J (iz J)<|aE J<|ci J J (fun hg=>cG J)<|ci J J (fun hg=>cw (aS J hg) hI)<|zo J (nW J J)<|aE J<|ci J J (fun hg=>cG J)<|ci J J (fun hg=>cw (aS J hg) hI)<|zo J (nW J J)<|bu J<|au<|ak ?_;cases so h;exact aF J J

theorem RF(k:Int){R:Bool}(h:lT k=some R):bo bl 204 [cb k] (gq R):=by
 refine bo.of Tryz.func204 J J J fun w0 S0=>aw<|zo J (ez)<|au<|aw<|aE J<|bz h fun r q_r h=>zo J (aC WT (RE _ q_r) ⟨(ht J),aT⟩)<|zo J (dh (ht J))<|bu J<|au<|ak ?_;cases so h;exact aF J J

theorem UV(b:Nat)(ix:OI)(c:aG)(n:af){R:(List Int)×Bool}(h:gB c n=some R):d2 bl 148 [tV (aM b 0),tD ah n] (d4 b c ix) (fun _:OI=>tT [dI R.1,gq R.2]) (fun _=>(d4 b c ix)):=by
 refine d2.of Tryz.func148 J J J fun w0 S0=>?_;refine(show CG _ _ _ [bx (rH bv [(1,aV (ix.h 0).1 (ix.h 0).2 c.kinds.length),(2,aV (ix.h 1).1 (ix.h 1).2 c.first.length)]) 123 b c,tip gG 42 (ix.h 0).1 (ix.h 0).2 c.kinds,tip cx 3 (ix.h 1).1 (ix.h 1).2 c.first] _ from ?_);refine aw<|zo J (jt J)<|zo J (aU (show aZ _ _ _ mJ from jr))<|zo J (ez)<|au<|aw<|zo J (aU (show aZ _ _ _ ((kz bl N7 qr (fun(x:Int)=>lT x)))from(T4 WU fun x y h=>RF _ h)))<|au<|aw<|zo J (bD oL hZ J J)<|zo J (bm bA J J)<|zo J (cU (ht J) hI)<|aE J<|bX J J (fun hg=>bD oL hZ J J)<|bX J J (fun hg=>aI bA J J (aS J hg))<|bX J J (fun hg=>eO (aS J hg) hI)<|zo J (mI J J)<|aE J<|bX J J (fun hg=>bD ly fq J J) ?_;refine bX J J (fun hg=>aI cD J J (aS J hg))<|bX J J (fun hg=>bU dc (aS J hg))<|bX J J (fun hg=>cU (aS J hg) hI)<|zo J (mI J J)<|aE J<|bX J J (fun hg=>bD ly fq J J)<|bX J J (fun hg=>aI cD J J (aS J hg))<|bX J J (fun hg=>bU dc (aS J hg))<|bX J J (fun hg=>g9 (aS J hg) hI)<|zo J (mI J J)<|bu J<|au<|ac<|bz h fun t q_t h=>?_
 obtain⟨r,h1t,h0t⟩:=og q_t
 have q_rg:=fun hb=>(h1t hb).1
 refine eu (ts:=[_,_,_,_,_,_,_,_,_,_,_,_]) mixed J J
  ⟨ef 3 J J J (bD ly fq J J),
  ⟨cT 28 0 J J J (bm cD J J),
  ⟨ef 7 J J J (cG J),
  ⟨cT 30 2 J J J (cG J),
  ⟨oj 3 31 3 J J J J (dn J J J J (fun hg=>bD ly fq J J)),
  ⟨gj 32 4 31 3 J J J J (dn J J J J (fun hg=>aI cD J J (aS J hg))),
  ⟨oj 6 31 3 J J J J (dn J J J J (fun hg=>cG J)),
  ⟨sd 33 5 34 6 31 3 J J J J J (dn J J J J (fun hg=>aC SV (LJ _ _ (q_rg hg)) ⟨(aS J hg),(aS J hg),aT⟩)),
  ⟨gj 35 7 31 3 J J J J (dn J J J J (fun hg=>dh (aS J hg))),
  ⟨dG 31 3 36 8 J J J J (cS (ht J) (fun hb=>(aS J hb)) (fun hb=>(h1t hb).2) h0t),
  ⟨cT 29 1 J J J (zm J),
  ⟨cT 37 9 J J J (zm J),
  aT⟩⟩⟩⟩⟩⟩⟩⟩⟩⟩⟩⟩ ?_
 refine aq<|ak<|aD<|aD<|aD ?_;cases so h;exact ln (ts:=[dI n.Kinds,gq t]) (rvs:=[.tmp 4,.tmp 5]) J J ⟨dA J,dA J,aT⟩ nz J J

theorem Pr(n:Int){R:(List Int)}(h:mD n=some R):gK bl 237 [tV (.slice none 0 0),cb n] false cx 3 R:=by
 refine gK.of Tryz.func237 J J J fun w0 S0=>aw<|cd false cx 3<|zo J (aU s6)<|au ?_;refine NR (Z:=nj n=some R) (Of:=[]) (Gf:=[(0,tV (.slice none 0 0)),(1,cb n)]) (fun h=>?_) (fun K=>?_)
 ·skip
  refine NQ (Z:=fun s l c=>ni s=some R) (Of:=fun s l c=>[ga cx 3 l c s]) (Gf:=fun s l c=>[(0,oP l c s)]) (fun s l c h=>?_) (fun K1=>?_)
  ·skip
   refine aw<|aE J<|bu J<|au<|ak ?_;cases so h;exact jd J J
  ·skip
   refine aw<|aE J<|aE J<|zo J (FO dc (ht J))<|aE J<|zo J (FM dc (ht J))<|zo J (dL (ht J) (ht J))<|zo J (dL (ht J) (ht J))<|bu J<|au<|aw<|aE J<|zo J (d5 (ht J) hI)<|au<|cE h J (fun h=>?_) (fun h=>?_)
   ·refine am<|aE J<|aE J<|zo J (FO dc (ht J))<|zo J (Iz dc bA (ht J) (ht J))<|aE J<|bz h fun u q_u h=>bz h fun mk q_mk h=>nw (I9 (r:=cx) (x:=(0:Int)) bA J J J J dc qo (fun _=>J) (ht J) (ht J) (Pf q_u) q_mk) J fun i=>aE J<|zo J (FM dc (ht J))<|bz h fun y q_y h=>zo J (sw dc bA J (.head _) (ht J) (ht J) q_y)<|Ez q_y<|bu J<|aJ ?_;exact bJ (K1 y (i.h 0).1 (i.h 0).2 h) (bg J)
   ·refine bk<|Qq false cx 3 ?_;exact bJ (K1 oq none 0 h) (bg J)
 ·skip
  refine aw<|aE J<|zo J (eO (ht J) hI)<|au<|cE h J (fun h=>?_) (fun h=>?_)
  ·refine am ?_;exact(nn h).elim
  ·refine bk<|aL ?_;exact bJ (K h) (bg J)
theorem Pv(slices:(List (List Int))){R:(List Int)}(h:jp slices=some R):gK bl 206 [fc (gG) slices] false cx 3 R:=by
 refine gK.of Tryz.func206 J J J fun w0 S0=>aw<|cd false cx 3<|zo J (aU s6)<|au<|aw<|zo J (dB)<|au<|ac<|aw<|aE J<|zo J (fW uw J)<|zo J (bQ hI)<|au<|ax<|br (k:=9) J fun hN=>bB<|mH ?_;refine aP (pN (Z:=fun ls i size=>(slices.drop i=ls)∧jI slices ls size=some R) (Of:=fun _ i size=>[]) (Gf:=fun _ i size=>[(0,fc (gG) slices),(3,cb size),(9,fc (gG) slices),(10,jV slices),(11,cb (i:Int))]) (fun i size h=>?_) (fun e tl ih i size h=>?_) slices 0 (0:Int) ⟨J,h⟩) (bg J)
 ·obtain⟨hx,h⟩:=h
  refine aB<|aw<|zo J (ft J J)<|au<|ac<|bP (ht J) (dU hx)<|bp ?_;refine ae (ae (aK ?_));refine aq<|aw<|aE rfl<|bz h fun r q_r h=>lY WB (Pr _ q_r) ⟨hV,(ht J),aT⟩ J fun l c=>bu J<|au<|ac<|aw<|aE J<|zo J (fW uw J)<|zo J (bQ hI)<|au<|ax<|br (k:=25) J fun hN1=>bB ?_;refine aP (lZ (Z:=fun ls1 i1 newslice l1 c1=>(slices.drop i1=ls1)∧jH ls1 newslice=some R) (Of:=fun _ i1 newslice l1 c1=>[ga cx 3 l1 c1 newslice]) (Gf:=fun _ i1 newslice l1 c1=>[(6,oP l1 c1 newslice),(25,fc (gG) slices),(26,jV slices),(27,cb (i1:Int))]) (fun i1 newslice l1 c1 h=>?_) (fun e1 tl1 ih1 i1 newslice l1 c1 h=>?_) slices 0 r l c ⟨J,h⟩) (bg J)
  ·obtain⟨hx1,h⟩:=h
   refine aB<|aw<|zo J (ft J J)<|au<|ac<|bP (ht J) (dU hx1)<|bp ?_;refine ae (ae (aK ?_));refine aq<|aw<|aE rfl<|bu rfl<|au<|ak ?_;cases so h;exact jd J J
  ·obtain⟨hx1,h⟩:=h
   refine aB<|aw<|zo J (ft J J)<|au<|ac<|bO (ht J) (dN hx1)<|dz<|ac<|ax<|aw<|zo J (iQ uw cD J J J (dO hx1))<|zo J (bm cD J J)<|bu J<|au<|am<|aE J<|aE J<|bz h fun newslice1 q_newslice1 h=>cK bA J J J J dc J J (ht J) (ht J) q_newslice1 fun l2 c2=>?_;refine bu J<|aJ<|an<|aq<|am<|zo rfl (nh (dm hx1 hN1) rfl)<|aE rfl<|aJ ?_;exact be (aP (ih1 (i1+1) newslice1 l2 c2 ⟨dl hx1,h⟩) (bg J))
 ·obtain⟨hx,h⟩:=h
  refine aB<|aw<|zo J (ft J J)<|au<|ac<|bO (ht J) (dN hx)<|dz<|ac<|ax<|aw<|zo J (iQ uw cD J J J (dO hx))<|zo J (bm cD J J)<|bu J<|au<|aw<|aE J<|aE J<|zo J (fW dc J) ?_;refine zo J (ei (ht J) (ht J))<|bu J<|au<|aw<|aE J<|zo J (eO (ht J) hI)<|au<|cE h J (fun h=>?_) (fun h=>?_)
  ·refine am ?_;exact(nn h).elim
  ·refine bk<|an<|aq<|am<|zo rfl (nh (dm hx hN) rfl)<|aE rfl<|aJ ?_;exact be (aP (ih (i+1) (IntKind.i64.wrap (size+(e.length:Int))) ⟨dl hx,h⟩) (bg J))
theorem RD(slices:(List (List Int))){R:(List Int)}(h:jp slices=some R):bo bl 206 [fc (gG) slices] (dI R):=(Pv _ h).spec

theorem LC(tag:Int){R:Int}(h:ru tag=some R):bo bl 235 [cb tag] (cb R):=by
 refine bo.of Tryz.func235 J J J fun w0 S0=>aw<|zo J (dB)<|au<|ac<|ax<|aw<|aE J<|zo J (iz J)<|aE J<|ci J J (fun hg=>cG J)<|ci J J (fun hg=>cw (aS J hg) hI)<|zo J (nW J J)<|bu J<|au<|cE h J (fun h=>?_) (fun h=>?_)
 ·refine aw<|zo J (dB)<|au<|ak ?_;refine ay (M ?_);cases so h;exact aF J J
 ·refine aw<|aE J<|zo J (cU (ht J) hI)<|aE J<|bX J J (fun hg=>cG J)<|bX J J (fun hg=>g9 (aS J hg) hI)<|zo J (mI J J)<|bu J<|au<|cE h J (fun h=>?_) (fun h=>?_)
  ·refine aw<|zo J (dB)<|au<|ak ?_;refine ay (M ?_);cases so h;exact aF J J
  ·refine aw<|aE J<|zo J (cU (ht J) hI)<|aE J<|bX J J (fun hg=>cG J)<|bX J J (fun hg=>g9 (aS J hg) hI)<|zo J (mI J J)<|bu J<|au<|cE h J (fun h=>?_) (fun h=>?_)
   ·refine aw<|zo J (dB)<|au<|ak ?_;refine ay (M ?_);cases so h;exact aF J J
   ·refine bk<|an<|aq<|aw<|zo rfl (dB)<|au<|ak ?_;cases so h;exact aF J J

theorem Rb(v:df){R:df}(h:xg v=some R):bo bl 273 [tD eG v] (tD eG R):=by
 refine bo.of Tryz.func273 J J J fun w0 S0=>aw<|kO (ht J) J fun b=>bj (r:=eG) (x:=CD) pt (fun _=>sa _) J fun b1=>au<|ac<|aw<|zo J (dy 0 rQ J J J)<|zo J (aA bA J J oK (.tail _ (.head _)) (ht J))<|au ?_;refine Gp (Z:=fun v1=>k5 v1=some R) (Of:=fun v1=>[bx eG 128 b v1,bx eG 128 b1 CD]) (Gf:=fun v1=>[(1,tV (aM b 0)),(2,tV (aM b1 0))]) (fun v1 h=>?_) (fun K=>?_)
 ·skip
  refine aq<|aw<|zo rfl (aA pt rfl rfl aR (.head _) (ht rfl))<|bL<|ai pt rfl aj rfl (ht rfl) (ht rfl)<|bh 2 rfl<|au<|ak<|aL ?_;cases so h;exact dF J pt J J J
 ·skip
  refine ac<|ax<|ac<|ax<|ac ?_;refine Gp (Z:=fun v2=>qv v2=some R) (Of:=fun v2=>[bx eG 128 b v2,bx eG 128 b1 CD]) (Gf:=fun v2=>[(1,tV (aM b 0)),(2,tV (aM b1 0))]) (fun v2 h=>?_) (fun K1=>?_)
  ·skip
   refine aq<|aw<|zo rfl (dy 0 rQ rfl rfl rfl)<|ai bA rfl zu rfl (ht rfl) hI<|au<|bp ?_;refine db J (ae (db J (ae (aK ?_))));exact bJ (K (df.mk (0:Int) v2.N v2.U v2.S) h) (bg J)
  ·skip
   refine ac ?_;refine BV (Z:=qu v=some R) (Of:=[bx eG 128 b v,bx eG 128 b1 CD]) (Gf:=[(1,tV (aM b 0)),(2,tV (aM b1 0))]) (fun h=>?_) (fun K2=>?_)
   ·skip
    refine aq<|am<|zo rfl (dy 1 wz rfl rfl rfl)<|ai SA rfl Dx rfl (ht rfl) hI<|aJ<|an ?_;exact bJ (K1 (df.mk v.Kind (0:Int) v.U v.S) h) (bg J)
   ·skip
    refine ac<|ax<|ac<|ac<|aw<|zo J (iz J)<|bu J<|au<|cE h J (fun h=>?_) (fun h=>?_)
    ·refine bp ?_;refine ae (ae (aK ?_));refine aq<|aw<|zo rfl (dy 1 wz rfl rfl rfl)<|zo rfl (aA SA rfl rfl rq (.tail _ (.head _)) (ht rfl))<|zo rfl (Gw rfl)<|aE rfl<|bX rfl rfl (fun hg=>dy 1 wz J J J)<|bX J J (fun hg=>aA SA J J rq (.tail _ (.head _)) (aS J hg))<|bX J J (fun hg=>cF (aS J hg) hI)<|zo J (mI J J)<|au<|cE h J (fun h=>?_) (fun h=>?_)
     ·refine bp ?_;refine db J (ae (db J (ae (db J (ae (db J (ae (aK ?_))))))));refine bE ?_;exact bJ (K v h) (bg J)
     ·refine bk<|an<|bE ?_;exact bJ (K2 h) (bg J)
    ·refine dz<|ac<|aw<|zo J (iz J)<|bu J<|au<|cE h J (fun h=>?_) (fun h=>?_)
     ·refine bp ?_;refine ae (ae (db J (ae (aK ?_))));refine bE ?_;exact bJ (K2 h) (bg J)
     ·refine dz<|ac<|aw<|zo J (iz J)<|bu J<|au<|cE h J (fun h=>?_) (fun h=>?_)
      ·refine bp ?_;refine ae (ae (db J (ae (db J (ae (aK ?_))))));refine bE ?_;exact bJ (K1 v h) (bg J)
      ·refine dz<|ac<|aw<|zo J (iz J)<|bu J<|au<|cE h J (fun h=>?_) (fun h=>?_)
       ·refine bp ?_;refine ae (ae (db J (ae (db J (ae (db J (ae (aK ?_))))))));refine aq ?_;refine dD (Z:=fun v3=>qt v3=some R) (Of:=fun v3=>[bx eG 128 b v3,bx eG 128 b1 CD]) (Gf:=fun v3=>[(1,tV (aM b 0)),(2,tV (aM b1 0))]) (fun v3 h=>?_) (fun K3=>?_)
        ·skip
         refine bp ?_;refine db J (ae (aK ?_));exact bJ (K v3 h) (bg J)
        ·skip
         refine aw<|zo J (dy 3 wy J J J)<|zo J (aA A9 J J p5 (.tail _ (.head _)) (ht J))<|zo J (rP kf (ht J))<|zo J (g9 (ht J) hI)<|au<|cE h J (fun h=>?_) (fun h=>?_)
         ·refine am<|zo J (dy 0 rQ J J J)<|bL<|ai bA J zu J (ht J) hI<|zo J (dy 3 wy J J J)<|ai A9 J JY J (ht J) hS<|aJ ?_;exact bJ (K3 (df.mk (0:Int) v.N v.U ([])) h) (bg J)
         ·refine bk<|bE ?_;exact bJ (K3 v h) (bg J)
       ·refine dz<|aw<|zo J (iz J)<|bu J<|au<|cE h J (fun h=>?_) (fun h=>?_)
        ·refine bp ?_;refine ae (db J (ae (db J (ae (db J (ae (db J (ae (aK ?_)))))))));refine aq<|aw<|zo rfl (dy 0 rQ rfl rfl rfl)<|bL<|ai bA rfl zu rfl (ht rfl) hI<|zo rfl (dy 1 wz rfl rfl rfl)<|ai SA rfl Dx rfl (ht rfl) hI<|zo rfl (dy 2 C6 rfl rfl rfl)<|ai HV rfl JZ rfl (ht rfl) hI<|au<|bp<|aK ?_;exact bJ (K (df.mk (0:Int) (0:Int) (0:Int) v.S) h) (bg J)
        ·refine dz<|bp ?_;refine db J (ae (db J (ae (db J (ae (db J (ae (db J (ae (aK ?_))))))))));refine bE ?_;exact bJ (K v h) (bg J)

theorem Re(v:df){R:Int}(h:uC v=some R):bo bl 265 [tD eG v] (cb R):=by
 refine bo.of Tryz.func265 J J J fun w0 S0=>aw<|zo J (jt J)<|zo J (dB)<|au<|ac<|aw<|zo J (bm pt J J)<|bz h fun r q_r h=>zo J (aC Wl (Rb _ q_r) ⟨(ht J),aT⟩)<|zo J (cm (y:=CD) pt FW sa (J))<|zo J (C2 F5 (ht J) (ht J))<|au<|cE h J (fun h=>?_) (fun h=>?_)
 ·refine aw<|zo J (dB)<|au<|ak<|M ?_;cases so h;exact aF J J
 ·refine dz<|aw<|zo J (dB)<|au<|ak ?_;cases so h;exact aF J J

theorem Rh(v:df){R:Bool}(h:uB v=some R):bo bl 254 [tD eG v] (gq R):=by
 refine bo.of Tryz.func254 J J J fun w0 S0=>aw<|zo J (jt J)<|zo J (ez)<|au<|aw<|zo J (bm pt J J)<|bz h fun r q_r h=>zo J (aC Wo (Re _ q_r) ⟨(ht J),aT⟩)<|zo J (iz J)<|aE J<|bX J J (fun hg=>bD rQ oK J J)<|bX J J (fun hg=>aI bA J J (aS J hg))<|bX J J (fun hg=>cF (aS J hg) hI)<|zo J (mI J J)<|bu J<|au<|ak ?_;cases so h;exact aF J J

theorem Rn(n:bq){R:Bool}(h:u3 n=some R):bo bl 236 [tD bc n] (gq R):=by
 refine bo.of Tryz.func236 J J J fun w0 S0=>aw<|zo J (jt J)<|zo J (ez)<|au<|ac<|aw<|zo J (bD fV dd J J)<|zo J (bm bA J J)<|au<|ax<|aw<|zo J (iz J)<|bu J<|au<|cE h J (fun h=>?_) (fun h=>?_)
 ·refine aw<|zo J (bD tw mu J J)<|zo J (bm pt J J)<|bz h fun r q_r h=>zo J (aC Wu (Rh _ q_r) ⟨(ht J),aT⟩)<|aE J<|bX J J (fun hg=>bD j7 eQ J J)<|bX J J (fun hg=>aI bA J J (aS J hg))<|bX J J (fun hg=>cw (aS J hg) hI)<|zo J (mI J J)<|bu J<|au<|ak ?_;refine ay (M ?_);cases so h;exact aF J J
 ·refine aw<|zo J (iz J)<|bu J<|au<|cE h J (fun h=>?_) (fun h=>?_)
  ·refine aw<|zo J (bD tw mu J J)<|zo J (bm pt J J)<|zo J (cm (y:=CD) pt FW sa (J))<|zo J (Az F5 (ht J) (ht J))<|aE J<|bX J J (fun hg=>bD j7 eQ J J)<|bX J J (fun hg=>aI bA J J (aS J hg))<|bX J J (fun hg=>cU (aS J hg) hI)<|zo J (mI J J)<|aE J<|bX J J (fun hg=>bD j7 eQ J J)<|bX J J (fun hg=>aI bA J J (aS J hg))<|bX J J (fun hg=>eO (aS J hg) hI)<|zo J (mI J J)<|bu J<|au<|ak ?_;refine ay (M ?_);cases so h;exact aF J J
  ·refine bk<|an<|aq<|aw<|zo rfl (bD tw mu rfl rfl)<|zo rfl (bm pt rfl rfl)<|zo rfl (cm (y:=CD) pt FW sa (J))<|zo J (Az F5 (ht J) (ht J))<|aE J<|bX J J (fun hg=>bD j7 eQ J J)<|bX J J (fun hg=>aI bA J J (aS J hg))<|bX J J (fun hg=>cw (aS J hg) hI)<|zo J (mI J J)<|bu J<|au<|ak ?_;cases so h;exact aF J J

theorem LE(e:bf){R:(List Int)×Bool}(h:sJ e=some R):bo bl 203 [tD bn e] (tT [dI R.1,gq R.2]):=by
 refine bo.of Tryz.func203 J J J fun w0 S0=>aw<|zo J (jt J)<|zo J (aU (show aZ _ _ _ mJ from jr))<|zo J (ez)<|au<|aw<|cd false cx 3<|zo J (aU s6)<|cd false cx 3<|zo J (aU s6)<|au<|ac<|aw<|zo J (bD de bZ J J)<|zo J (bm ir J J)<|zo J (fW oo J)<|zo J (bQ hI)<|aJ ?_;refine aq<|ax<|br (k:=15) J fun hN=>bB<|eV ?_;refine aP (A4 (Z:=fun ls i all l c open1 l1 c1=>(e.Nodes.drop i=ls)∧li ls i all open1=some R) (Of:=fun _ i all l c open1 l1 c1=>[ga cx 3 l c all,ga cx 3 l1 c1 open1]) (Gf:=fun _ i all l c open1 l1 c1=>[(4,oP l c all),(5,oP l1 c1 open1),(15,fc (bc) e.Nodes),(16,jV e.Nodes),(17,cb (i:Int))]) (fun i all l c open1 l1 c1 h=>?_) (fun e1 tl ih i all l c open1 l1 c1 h=>?_) e.Nodes 0 oq none 0 oq none 0 ⟨J,h⟩) (bg J)
 ·obtain⟨hx,h⟩:=h
  refine aB<|aw<|zo J (ft J J)<|au<|ac<|bP (ht J) (dU hx)<|bp ?_;refine ae (ae (aK ?_));refine aq<|aw<|aE rfl<|aE rfl<|zo rfl (gQ dc (.tail _ (.head _)) (ht rfl))<|zo rfl (iz rfl)<|aE rfl<|bX rfl rfl (fun hg=>cG J)<|bX J J (fun hg=>gQ dc (.head _) (aS J hg))<|bX J J (fun hg=>g9 (aS J hg) hI)<|zo J (mI J J)<|bu J<|bu J<|au<|ak<|gV<|cC 4 J<|cC 84 J<|cC 2 J<|ik 2 J<|aL<|aL ?_;cases so h;exact co J J J
 ·obtain⟨hx,h⟩:=h
  refine aB<|aw<|zo J (ft J J)<|au<|ac<|bO (ht J) (dN hx)<|dz<|ac<|ax<|aw<|aE J<|zo J (iQ oo cR J J J (dO hx))<|zo J (bm cR J J)<|bj (r:=bc) (x:=Dl) cR (fun _=>kZ _) J fun b=>bu J<|ai cR J aj J (ht J) (ht J)<|bh 7 J<|au<|ac ?_;refine am<|zo J (bD fV dd J J)<|zo J (bm bA J J)<|bz h fun r q_r h=>zo J (aC SP (LC _ q_r) ⟨(ht J),aT⟩)<|bu J<|au<|ac<|aw<|aE J<|zo J (eO (ht J) hI)<|aE J<|ci J J (fun hg=>cG J)<|ci J J (fun hg=>cG J)<|ci J J (fun hg=>gQ dc (.tail _ (.head _)) (aS J hg))<|ci J J (fun hg=>d5 (aS J hg) (aS J hg))<|zo J (nW J J)<|aE J<|bz h fun t q_t h=>ci J J (fun hg=>bm cR J J) ?_
  obtain⟨r1,h1t,h0t⟩:=og q_t
  have q_r1g:=fun hb=>(h1t hb).1
  refine ci J J (fun hg=>aC WC (Rn _ (q_r1g hg)) ⟨(aS J hg),aT⟩)<|ci J J (fun hg=>dh (aS J hg))<|zo J (dj (ht J) (fun hb=>(aS J (nZ hb))) (fun hb=>(h1t hb).2) h0t)<|au<|cE h J (fun h=>?_) (fun h=>?_)
  ·refine aw<|zo J (aU (show aZ _ _ _ mJ from jr))<|zo J (ez)<|au<|ak ?_;refine M (ay (M (M (ay (M ?_)))));refine aL<|aL ?_;cases so h;exact co J J J
  ·refine dz<|aw<|aE J<|aE J<|zo J (gQ dc (.tail _ (.head _)) (ht J))<|aE J<|zo J (dL (ht J) (ht J))<|bz h fun y q_y h=>zo J (sv dc bA J (.tail _ (.head _)) (ht J) (ht J) q_y)<|qR (.tail _ (.head _)) q_y fun hv=>bu J<|au<|aw<|zo J (Bz (r:=cx) (ys:=[mK,mK]) (xs:=[.const (.int .i64 (-1)),.const (.int .i64 (-1))]) Fc bA J Fk J J ⟨hI,hI,aT⟩)<|bj (r:=Mu) (x:=(List.replicate 2 (0:Int))) Fk (fun _=>Qf (r:=cx) 2 (fun _=>J) _) J fun b1=>ai Fk J aj J (ht J) (ht J)<|au<|aw ?_;refine aE J<|bu J<|au<|ac<|aw<|aE J<|zo J (QR dc (.tail _ (.tail _ (.head _))) q_y (ht J))<|zo J (bQ hI)<|au<|ax ?_
   have hN1:=hv.2
   refine bB<|iJ<|iJ ?_;refine aP (sL (Z:=fun ls1 i1 first at1=>(y.drop i1=ls1)∧mZ (li tl) i e1 all open1 r ls1 i1 first at1=some R) (Of:=fun _ i1 first at1=>[ga cx 3 l c all,ga cx 3 l1 c1 open1,bx Mu 141 b1 at1]) (Gf:=fun _ i1 first at1=>[(4,oP l c all),(5,oP l1 c1 open1),(6,cb (i:Int)),(7,bt bc e1),(8,cb r),(10,tV (aM b1 0)),(11,cb first),(15,fc (bc) e.Nodes),(16,jV e.Nodes),(17,cb (i:Int)),(46,tV (ot 1 l1 c1 (IntKind.i64.wrap ((open1.length:Int)-r)).toNat y.length)),(47,jV y),(48,cb (i1:Int))]) (fun i1 first at1 h=>?_) (fun e2 tl1 ih1 i1 first at1 h=>?_) y 0 (i:Int) ([mK,mK]) ⟨J,h⟩) (bg J)
   ·obtain⟨hx1,h⟩:=h
    refine aB<|aw<|zo J (ft J J)<|au<|ac<|bP (ht J) (dU hx1)<|bp ?_;refine ae (ae (aK ?_));refine aq<|ac<|aw<|zo rfl (aA Fk rfl rfl aR (.tail _ (.tail _ (.head _))) (ht rfl))<|zo rfl (bD pe ko rfl rfl)<|zo rfl (bm bA rfl rfl)<|zo rfl (bD n9 jC rfl rfl)<|zo rfl (bm bA rfl rfl)<|zo rfl (Bz (r:=cx) (ys:=[e1.L,e1.R]) (xs:=[.tmp 65,.tmp 67]) Fc bA J Fk J J ⟨(ht J),(ht J),aT⟩)<|zo J (C2 Wf (ht J) (ht J))<|au<|cE h J (fun h=>?_) (fun h=>?_)
    ·refine aw<|zo J (aU (show aZ _ _ _ mJ from jr))<|zo J (ez)<|au<|ak ?_;refine M (ay (M (M (ay (M ?_)))));refine aL<|aL<|aL ?_;cases so h;exact co J J J
    ·refine dz<|aw<|aE J<|aE J<|zo J (aN (r:=cx) (ys:=[first]) (xs:=[.tmp 71]) dc bA J J J J J ⟨(ht J),aT⟩)<|bz h fun all1 q_all1 h=>cK bA J J J J dc J J (ht J) (ht J) q_all1 fun l2 c2=>bu J<|au<|am<|aE J<|aE J<|zo J (gQ dc (.tail _ (.head _)) (ht J))<|aE J<|zo J (dL (ht J) (ht J))<|bz h fun y1 q_y1 h=>zo J (sw dc bA J (.tail _ (.head _)) (ht J) (ht J) q_y1)<|aE J<|zo J (aN (r:=cx) (ys:=[(i:Int)]) (xs:=[.tmp 80]) dc bA J J J J J ⟨(ht J),aT⟩)<|bL<|Ez q_y1 ?_;refine bz h fun open2 q_open2 h=>cK bA J J J J dc J J (ht J) (ht J) q_open2 fun l3 c3=>bu J<|aJ<|an<|aq<|am<|zo rfl (nh (dm hx hN) rfl)<|aE rfl<|aJ<|aD<|aL<|bE ?_;exact be (aP (ih (i+1) all1 l2 c2 open2 l3 c3 ⟨dl hx,h⟩) (bg J))
   ·obtain⟨hx1,h⟩:=h
    refine aB<|aw<|zo J (ft J J)<|au<|ac<|bO (ht J) (dN hx1)<|dz<|ac<|ax<|aw<|aE J<|zo J (EU dc bA J (.tail _ (.head _)) q_y (ht J) (ht J) (dO hx1))<|zo J (gn (r:=cx) (i:=((IntKind.i64.wrap ((open1.length:Int)-r))+(i1:Int))) (foff:=0) bA J J aR J (.tail _ (.head _)) (Dv q_y (dO hx1)).1 (ht J))<|bu J<|bu J<|au<|bz h fun e3 q_e3 h=>bz h fun e4 q_e4 h=>bz h fun ar q_ar h=>?_
    refine iK 10 [tc (cb (i1:Int)),tc (cb e2),tc (cb first),tc (oP l c all),tc (cb e2),tc (tV (ol l (e2.toNat*1+0))),tc (cb e3),tc (cb (min first e3)),tc (tV (aM b1 ((i1:Int).toNat*1))),tc (Af)] [false,false,false,false,false,false,false,false,false,true] [fun _=>[ga cx 3 l c all,ga cx 3 l1 c1 open1,bx Mu 141 b1 at1],fun sg=>[bx Mu 141 b1 ar,ga cx 3 l c all,ga cx 3 l1 c1 open1]] J mixed J J J J J
     ⟨⟨[⟨12,fun _=>tD cx (i1:Int),none⟩],_,0,0,J,⟨(fun _=>J),aT⟩,J,J,J,J,J,fun _ sg _ _=>aa J (cG J)⟩,
     ⟨⟨[⟨13,fun _=>tD cx e2,none⟩],_,0,0,J,⟨(fun _=>J),aT⟩,J,J,J,J,J,fun _ sg _ _=>aa J (cG J)⟩,
     ⟨⟨[⟨11,fun _=>tD cx first,none⟩],_,0,1,J,⟨(fun _=>J),aT⟩,J,J,J,J,J,fun _ sg _ _=>aa J (cG J)⟩,
     ⟨⟨[⟨4,fun _=>tV (aV l c all.length),none⟩],_,0,1,J,⟨(fun _=>J),aT⟩,J,J,J,J,J,fun _ sg _ _=>aa J (cG J)⟩,
     ⟨⟨[⟨13,fun _=>tD cx e2,none⟩],_,0,1,J,⟨(fun _=>J),aT⟩,J,J,J,J,J,fun _ sg _ _=>aa J (cG J)⟩,
     ⟨⟨[⟨56,fun _=>tV (aV l c all.length),some 3⟩,⟨57,fun _=>tD cx e2,some 4⟩],_,0,1,J,⟨(fun _=>J),(fun _=>J),aT⟩,J,J,J,J,J,vV (fun sg=>aa J (cV dc bA (.head _) (ht J) (ht J) q_e3)) (tU (fun sg=>aa J (cV dc bA (.tail _ (.head _)) (ht J) (ht J) q_e3)))⟩,
     ⟨⟨[⟨58,fun _=>tV (ol l (e2.toNat*1+0)),some 5⟩],_,0,1,J,⟨(fun _=>J),aT⟩,J,J,J,J,J,vV (fun sg=>aa J (gn (r:=cx) (i:=e2) (foff:=0) bA J J aR J (.head _) q_e3 (ht J))) (tU (fun sg=>aa J (gn (r:=cx) (i:=e2) (foff:=0) bA J J aR J (.tail _ (.head _)) q_e3 (ht J))))⟩,
     ⟨⟨[⟨55,fun _=>tD cx first,some 2⟩,⟨59,fun _=>tD cx e3,some 6⟩],_,0,1,J,⟨(fun _=>J),(fun _=>J),aT⟩,J,J,J,J,J,fun _ sg _ _=>aa J (Lo (ht J) (ht J))⟩,
     ⟨⟨[⟨10,fun _=>tV (aM b1 0),none⟩,⟨53,fun _=>tD cx (i1:Int),some 0⟩],_,0,0,J,⟨(fun _=>J),(fun _=>J),aT⟩,J,J,J,J,J,tU (fun sg=>aa J (ET Fc bA (.tail _ (.tail _ (.head _))) (ht J) (ht J) q_e4))⟩,
     ⟨⟨[⟨61,fun _=>tV (aM b1 ((i1:Int).toNat*1)),some 8⟩,⟨54,fun _=>tD cx e2,some 1⟩],_,J,⟨(fun _=>J),(fun _=>J),aT⟩,J,J,J,fun sg=>bN J (EffOK.fr2 (KC bA J q_e4 (so q_ar) (ht J) (ht J)))⟩,
     aT⟩⟩⟩⟩⟩⟩⟩⟩⟩⟩ (fun sg=>?_)
    refine(show RG _ _ _ _ [bx Mu 141 b1 ar,ga cx 3 l c all,ga cx 3 l1 c1 open1] _ from ?_);refine bu J<|aJ<|an<|aq<|am<|zo rfl (nh (dm hx1 hN1) rfl)<|aE rfl<|aJ<|aD<|aD ?_;exact be (aP (ih1 (i1+1) (min first e3) ar ⟨dl hx1,h⟩) (bg J))

end Go.Proofs.YtnmjbolollcokaaGreatDoor

