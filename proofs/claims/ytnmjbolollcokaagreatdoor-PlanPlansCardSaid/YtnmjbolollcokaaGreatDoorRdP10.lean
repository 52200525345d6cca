/- dr of this claim: P10. -/
import Derived.Test.YtnmjbolollcokaaGreatDoorRdT
import Derived.Test.YtnmjbolollcokaaGreatDoorRdP9
set_option linter.all false
namespace Go.Proofs.YtnmjbolollcokaaGreatDoor
open Go
set_option maxRecDepth 100000

theorem Uw(p:dp)(frag:Int)(nodes:Int){R:Int}(h:DX p frag nodes=some R):bo bl 45 [tD bG p,cb frag,cb nodes] (cb R):=by
 refine bo.of Tryz.func45 J J J fun w0 S0=>aw<|zo J (jt J)<|zo J (dB)<|au<|ac<|aw<|zo J (bD iN fm J J)<|zo J (bm jh J J)<|zo J (fW kx J)<|zo J (d5 (ht J) hI)<|aE J<|ci J J (fun hg=>cG J)<|ci J J (fun hg=>eO (aS J hg) hI)<|zo J (nW J J)<|aE J<|ci J J (fun hg=>cG J)<|ci J J (fun hg=>bD iN fm J J)<|ci J J (fun hg=>aI jh J J (aS J hg))<|ci J J (fun hg=>bU kx (aS J hg))<|ci J J (fun hg=>cU (aS J hg) (aS J hg)) ?_;refine zo J (nW J J)<|aE J<|ci J J (fun hg=>cG J)<|ci J J (fun hg=>eO (aS J hg) hI)<|zo J (nW J J)<|aE J<|ci J J (fun hg=>cG J)<|ci J J (fun hg=>d5 (aS J hg) hI)<|zo J (nW J J)<|au<|cE h J (fun h=>?_) (fun h=>?_)
 ·refine aw<|zo J (dB)<|au<|ak<|M ?_;cases so h;exact aF J J
 ·refine dz<|aw<|zo J (dB)<|au<|ak ?_;cases so h;exact aF J J

theorem RK(p:dp)(from1:Int):zP bl 192 (fun(x:Int×Int)=>[cb x.1,cb x.2]) (fun _=>vi p from1) [] [bt bG p,bt cx from1]:=by
 refine zP.of Tryz.func192 J J J fun Sg yld s R h I yv hy e he w0 S0 B hB=>?_
 replace h:vi p from1 yld s=some R:=h
 refine aw<|zo J (bD iN fm J J)<|zo J (bm jh J J)<|zo J (fW kx J)<|zo J (bQ hI)<|au<|ax<|br (k:=9) J fun hN=>bB ?_;refine aP (sL (Z:=fun ls i e1 s1=>(p.Frags.drop i=ls)∧I s1 e1∧o0 from1 yld ls i s1=some R) (Of:=fun _ i e1 s1=>[e1]) (Gf:=fun _ i e1 s1=>[(0,tV yv),(2,bt cx from1),(9,fc (aH) p.Frags),(10,jV p.Frags),(11,cb (i:Int))]) (fun i e1 s1 h=>?_) (fun e2 tl ih i e1 s1 h=>?_) p.Frags 0 e s ⟨J,⟨he,h⟩⟩) (bg J)
 ·obtain⟨hx,h⟩:=h
  obtain⟨he1,h⟩:=h
  refine aB<|aw<|zo J (ft J J)<|au<|ac<|bP (ht J) (dU hx)<|bp ?_;refine ae (ae (aK ?_));cases so h;exact JC J he1 hB trivial
 ·obtain⟨hx,h⟩:=h
  obtain⟨he1,h⟩:=h
  refine aB<|aw<|zo J (ft J J)<|au<|ac<|bO (ht J) (dN hx)<|dz<|ac<|ax<|aw<|aE J<|zo J (iQ kx gk J J J (dO hx))<|zo J (bm gk J J)<|bj (r:=aH) (x:=zl) gk (fun _=>mC _) J fun b=>bu J<|ai gk J aj J (ht J) (ht J)<|bh 5 J<|au<|ac ?_;refine am<|zo J (bD zK rs J J)<|zo J (bm iB J J)<|zo J (fW om J)<|zo J (bQ hI)<|au<|ax<|br (k:=17) J fun hN1=>bB ?_;refine aP (sL (Z:=fun ls1 i1 e3 s2=>(e2.Nodes.drop i1=ls1)∧I s2 e3∧oZ from1 yld (o0 from1 yld tl) i ls1 i1 s2=some R) (Of:=fun _ i1 e3 s2=>[e3]) (Gf:=fun _ i1 e3 s2=>[(0,tV yv),(2,bt cx from1),(4,cb (i:Int)),(9,fc (aH) p.Frags),(10,jV p.Frags),(11,cb (i:Int)),(17,fc (ah) e2.Nodes),(18,jV e2.Nodes),(19,cb (i1:Int))]) (fun i1 e3 s2 h=>?_) (fun e4 tl1 ih1 i1 e3 s2 h=>?_) e2.Nodes 0 e1 s1 ⟨J,⟨he1,h⟩⟩) (bg J)
  ·obtain⟨hx1,h⟩:=h
   obtain⟨he2,h⟩:=h
   refine aB<|aw<|zo J (ft J J)<|au<|ac<|bP (ht J) (dU hx1)<|bp ?_;refine ae (ae (aK ?_));refine an<|aq<|am<|zo rfl (nh (dm hx hN) rfl)<|aE rfl<|aJ ?_;exact be (aP (ih (i+1) e3 s2 ⟨dl hx,⟨he2,h⟩⟩) (bg J))
  ·obtain⟨hx1,h⟩:=h
   obtain⟨he2,h⟩:=h
   refine aB<|aw<|zo J (ft J J)<|au<|ac<|bO (ht J) (dN hx1)<|dz<|ac<|ax<|aw<|aE J<|zo J (iQ om cz J J J (dO hx1))<|zo J (bm cz J J)<|bj (r:=ah) (x:=zk) cz (fun _=>iT _) J fun b1=>bu J<|ai cz J aj J (ht J) (ht J)<|bh 7 J<|au<|ac ?_;refine am<|zo J (bD lh eP J J)<|zo J (bm bA J J)<|zo J (iz J)<|aE J<|bX J J (fun hg=>bD oL hZ J J)<|bX J J (fun hg=>aI bA J J (aS J hg))<|bX J J (fun hg=>bm bA J J)<|bX J J (fun hg=>cw (aS J hg) (aS J hg))<|zo J (mI J J)<|aE J ?_;refine Qj ((e4.Op==(9:Int))&&(e4.Table==from1)) (fun hg=>?_) (fun hg=>?_)
   ·have h:=ct h hg;refine Jp J J J hg<|aE J<|Jp J J J hg<|aE J<|Jp J J J hg<|aE J<|Jp J J J hg<|bz h fun r q_r h=>Ew hy he2 q_r (ht J) ⟨(ht J),(ht J),aT⟩ J fun e5 he3=>Jp J J J hg<|zo J (dh (ht J))<|zo J (MY (ht J) hg (ht J))<|au<|cE h J (fun h=>?_) (fun h=>?_)
    ·refine ak ?_;refine ay (M (M (ay (ay (M (M (ay ?_)))))));cases so h;exact HB J he3 hB trivial
    ·refine bk<|an<|aq<|am<|zo rfl (nh (dm hx1 hN1) rfl)<|aE rfl<|aJ ?_;exact be (aP (ih1 (i1+1) e5 r.2 ⟨dl hx1,⟨he3,h⟩⟩) (bg J))
   ·have h:=cf h hg;refine Ex J J J hg J<|Ex J J J hg J<|Ex J J J hg J<|Ex J J J hg J<|Ex J J J hg J<|zo J (MZ (ht J) hg hBc)<|au<|qT (ht J) (fun hc=>?_) (fun hc=>?_)
    ·cases hc
    ·refine bk<|an<|aq<|am<|zo rfl (nh (dm hx1 hN1) rfl)<|aE rfl<|aJ ?_;exact be (aP (ih1 (i1+1) e3 s2 ⟨dl hx1,⟨he2,h⟩⟩) (bg J))

theorem PA(p:dp)(from1:Int){R:It (Int×Int)}(h:Cb p from1=some R):zN bl 125 [tD bG p,cb from1] (fun(x:Int×Int)=>[cb x.1,cb x.2]) R:=by
 refine zN.of Tryz.func125 J J J fun w0 S0=>aw<|zo J (jt J)<|zo J (jt J)<|zo J (aU hV)<|au<|aw<|Cu (O1:=[]) (cts:=[bt bG p,bt cx from1]) (caps:=[.tmp 2,.tmp 3]) J WY (RK p from1) ⟨(ht J),(ht J),aT⟩ J fun v fp=>bu J<|au<|ak ?_;cases so h;exact JA J J

theorem Uh(p:dp)(from1:Int){R:Int×Int×Bool}(h:Cc p from1=some R):bo bl 81 [tD bG p,cb from1] (tT [cb R.1,cb R.2.1,gq R.2.2]):=by
 refine Et Tryz.func81 J J J fun w0 S0=>aw<|zo J (jt J)<|bj (r:=cx) (x:=(0:Int)) bA (fun _=>J) J fun b=>bj (r:=cx) (x:=(0:Int)) bA (fun _=>J) J fun b1=>bj (r:=rB) (x:=false) yK (fun _=>J) J fun b2=>au<|ac<|aw<|zo J (bm jm J J)<|aE J<|bz h fun it q_it h=>Gi XD (PA _ _ q_it) ⟨(ht J),(ht J),aT⟩ J fun v fp=>au<|ax<|bz h fun r q_r h=>Vm ?_;refine Gm (fun(i:Bool×Int×Int)=>[bx rB 4 b2 i.1,bx cx 3 b1 i.2.1,bx cx 3 b i.2.2]) (fun(i:Bool×Int×Int)=>(i.1,i.2.1,i.2.2)) (fun _=> .ret) J (ht J) (false,(0:Int),(0:Int)) J q_r (fun _=>J) J (fun i x r1 h lp rec1 _ _ _=>?_) (fun i j hi bd=>⟨fun hj=>?_,fun _ hj=>?_⟩)
 ·obtain⟨x1,x2,x3⟩:=i
  replace h:xB x x1 x2 x3=some r1:=h
  refine(show CG _ _ _ [sS lp rec1 .ready none,bx rB 4 b2 x1,bx cx 3 b1 x2,bx cx 3 b x3] _ from ?_);refine EE (G' :=[(0,tD bG p),(1,cb from1),(2,bt bG p),(4,tV (aM b 0)),(5,tV (aM b1 0)),(6,tV (aM b2 0)),(9,tD bG p),(10,cb from1),(12,cb x.1),(13,cb x.2)]) ?_ ⟨J,J,J,J,J,J,J,J,J,J,aT⟩;refine aw<|bu J<|au<|am<|bu J<|aJ<|Gs<|ax<|aw<|aE J<|aE J<|dC<|ai bA J aj J (ht J) (ht J)<|dC<|ai bA J aj J (ht J) (ht J)<|dC<|ai yK J aj J (ht J) hB<|au<|ak<|ay ?_;refine aD<|aD<|aD<|bF ?_;cases so h;exact A8 0 J (true,x.2,x.1) J J
 ·skip
  obtain⟨x4,x5,x6⟩:=i
  obtain rfl:x4=r.1.2.1:=congrArg (fun q:Bool×Int×Int=>q.1) hi
  obtain rfl:x5=r.1.2.2.1:=congrArg (fun q:Bool×Int×Int=>q.2.1) hi
  obtain rfl:x6=r.1.2.2.2:=congrArg (fun q:Bool×Int×Int=>q.2.2) hi
  have h:=ct h (by rw [hj];rfl);refine(show AT _ _ _ [CP bd,bx rB 4 b2 r.1.2.1,bx cx 3 b1 r.1.2.2.1,bx cx 3 b r.1.2.2.2] _ from ?_);refine bJ (G' :=[(0,tD bG p),(1,cb from1),(2,bt bG p),(4,tV (aM b 0)),(5,tV (aM b1 0)),(6,tV (aM b2 0)),(9,tD bG p),(10,cb from1)]) ?_ ⟨J,J,J,J,J,J,J,J,aT⟩;refine an<|aq<|aw<|dC<|ai bA rfl aj rfl (ht rfl) hI<|dC<|ai bA rfl aj rfl (ht rfl) hI<|dC<|ai yK rfl aj rfl (ht rfl) hB<|au<|ak<|aD<|bH 4 rfl<|bE<|bH 5 rfl<|bH 6 rfl<|A7<|vP ?_;cases so h;exact kP (ts:=[cb 0,cb 0,gq false]) (rvs:=[.cell 4 3,.cell 5 3,.cell 6 4]) J J ⟨fh bA J J J,fh bA J J J,fh yK J J J,aT⟩
 ·skip
  obtain⟨x7,x8,x9⟩:=i
  obtain rfl:x7=r.1.2.1:=congrArg (fun q:Bool×Int×Int=>q.1) hi
  obtain rfl:x8=r.1.2.2.1:=congrArg (fun q:Bool×Int×Int=>q.2.1) hi
  obtain rfl:x9=r.1.2.2.2:=congrArg (fun q:Bool×Int×Int=>q.2.2) hi
  have h:=cf h (by rw [hj];rfl);refine(show CG _ _ _ [CP bd,bx rB 4 b2 r.1.2.1,bx cx 3 b1 r.1.2.2.1,bx cx 3 b r.1.2.2.2] _ from ?_);refine EE (G' :=[(0,tD bG p),(1,cb from1),(2,bt bG p),(4,tV (aM b 0)),(5,tV (aM b1 0)),(6,tV (aM b2 0)),(9,tD bG p),(10,cb from1)]) ?_ ⟨J,J,J,J,J,J,J,J,aT⟩;refine ak ?_;refine ay (M ?_);refine bF<|bH 4 J<|aD<|bH 5 J<|bE<|bH 6 J<|A7<|vP ?_;cases so h;exact kP (ts:=[cb r.1.2.2.2,cb r.1.2.2.1,gq r.1.2.1]) (rvs:=[.cell 4 3,.cell 5 3,.cell 6 4]) J J ⟨fh bA J J J,fh bA J J J,fh yK J J J,aT⟩

theorem Uv(p:dp)(frag:Int){R:Int}(h:Cd p frag=some R):bo bl 46 [tD bG p,cb frag] (cb R):=by
 refine bo.of Tryz.func46 J J J fun w0 S0=>aw<|zo J (jt J)<|zo J (dB)<|au<|ac<|aw<|zo J (bm jm J J)<|aE J<|bz h fun r q_r h=>zo J (aC Ys (Uh _ _ q_r) ⟨(ht J),(ht J),aT⟩)<|aE J<|zo J (kG J J)<|zo J (kG J J)<|zo J (kG J J)<|bu J<|bu J<|bu J<|au<|ac ?_;refine am<|aE J<|au<|cE h J (fun h=>?_) (fun h=>?_)
 ·refine aw<|aE J<|bu J<|au<|ak<|M ?_;cases so h;exact aF J J
 ·refine dz<|aw<|zo J (dB)<|au<|ak ?_;cases so h;exact aF J J

theorem Po(f:bK)(nodes:Int){R:(List Int)}(h:zB f nodes=some R):bo bl 47 [tD aH f,cb nodes] (dI R):=by
 refine bo.of Tryz.func47 J J J fun w0 S0=>aw<|zo J (jt J)<|zo J (aU (show aZ _ _ _ mJ from jr))<|au<|ac<|aw<|zo J (bD Hb BG J J)<|zo J (bm bA J J)<|zo J (iz J)<|au<|cE h J (fun h=>?_) (fun h=>?_)
 ·refine aw<|zo J (aN (r:=cx) (ys:=[(0:Int)]) (xs:=[.const (.int .i64 (0))]) dc bA J J J J J ⟨hI,aT⟩)<|bu J<|au<|ak<|M ?_;cases so h;exact aF J J
 ·refine dz<|aw<|aE J<|zo J (ei (ht J) hI)<|bz h fun r q_r h=>lY Ve (He _ q_r) ⟨(ht J),aT⟩ J fun l c=>bz h fun y q_y h=>zo J (sv dc bA J (.head _) (ht J) hI q_y)<|qR (.head _) q_y fun hv=>bu J<|au<|ak<|gV<|Gq 4 q_y J<|cC 11 J<|Gq 12 q_y J<|aL ?_;cases so h;exact aF J J

theorem R4(p:dp)(nodes:Int):zP bl 126 JJ (fun _=>zD p nodes) [] [bt bG p,bt cx nodes]:=by
 refine zP.of Tryz.func126 J J J fun Sg yld s R h I yv hy e he w0 S0 B hB=>?_
 replace h:zD p nodes yld s=some R:=h
 refine aw<|zo J (bD iN fm J J)<|zo J (bm jh J J)<|zo J (fW kx J)<|zo J (bQ hI)<|au<|ax<|br (k:=12) J fun hN=>bB ?_;refine aP (sL (Z:=fun ls i e1 s1=>(p.Frags.drop i=ls)∧I s1 e1∧mj p nodes yld ls i s1=some R) (Of:=fun _ i e1 s1=>[e1]) (Gf:=fun _ i e1 s1=>[(0,tV yv),(1,bt bG p),(2,bt cx nodes),(12,fc (aH) p.Frags),(13,jV p.Frags),(14,cb (i:Int))]) (fun i e1 s1 h=>?_) (fun e2 tl ih i e1 s1 h=>?_) p.Frags 0 e s ⟨J,⟨he,h⟩⟩) (bg J)
 ·obtain⟨hx,h⟩:=h
  obtain⟨he1,h⟩:=h
  refine aB<|aw<|zo J (ft J J)<|au<|ac<|bP (ht J) (dU hx)<|bp ?_;refine ae (ae (aK ?_));cases so h;exact JC J he1 hB trivial
 ·obtain⟨hx,h⟩:=h
  obtain⟨he1,h⟩:=h
  refine aB<|aw<|zo J (ft J J)<|au<|ac<|bO (ht J) (dN hx)<|dz<|ac ?_;refine NX (Z:=fun e3 s2=>I s2 e3∧vk (mj p nodes yld tl) i s2=some R) (Of:=fun e3 s2=>[e3]) (Gf:=fun e3 s2=>[(0,tV yv),(1,bt bG p),(2,bt cx nodes),(12,fc (aH) p.Frags),(13,jV p.Frags),(14,cb (i:Int))]) (fun e3 s2 h=>?_) (fun K=>?_)
  ·obtain⟨he2,h⟩:=h
   refine aq<|am<|zo rfl (nh (dm hx hN) rfl)<|aE rfl<|aJ ?_;exact be (aP (ih (i+1) e3 s2 ⟨dl hx,⟨he2,h⟩⟩) (bg J))
  ·skip
   refine aw<|aE J<|zo J (iQ kx gk J J J (dO hx))<|zo J (bm gk J J)<|bj (r:=aH) (x:=zl) gk (fun _=>mC _) J fun b=>bu J<|ai gk J aj J (ht J) (ht J)<|bh 5 J<|au<|aw<|zo J (bm jm J J)<|aE J<|bz h fun r q_r h=>zo J (aC YO (Uv _ _ q_r) ⟨(ht J),(ht J),aT⟩)<|bu J<|au<|ac<|aw<|aE J ?_;refine zo J (eO (ht J) hI)<|au<|cE h J (fun h=>?_) (fun h=>?_)
   ·refine bp ?_;refine ae (aK ?_);exact bJ (K e1 s1 ⟨he1,h⟩) (bg J)
   ·refine dz<|aw<|zo J (bm gk J J)<|zo J (bm bA J J)<|bz h fun r1 q_r1 h=>zo J (aC Wi (Po _ _ q_r1) ⟨(ht J),(ht J),aT⟩)<|zo J (fW dc J)<|zo J (bQ hI)<|au<|ax<|br (k:=26) J fun hN1=>bB ?_;refine aP (sL (Z:=fun ls1 i1 e4 s3=>(r1.drop i1=ls1)∧I s3 e4∧rO p nodes yld (mj p nodes yld tl) i r ls1 s3=some R) (Of:=fun _ i1 e4 s3=>[e4]) (Gf:=fun _ i1 e4 s3=>[(0,tV yv),(1,bt bG p),(2,bt cx nodes),(4,cb (i:Int)),(6,cb r),(12,fc (aH) p.Frags),(13,jV p.Frags),(14,cb (i:Int)),(26,dI r1),(27,jV r1),(28,cb (i1:Int))]) (fun i1 e4 s3 h=>?_) (fun e5 tl1 ih1 i1 e4 s3 h=>?_) r1 0 e1 s1 ⟨J,⟨he1,h⟩⟩) (bg J)
    ·obtain⟨hx1,h⟩:=h
     obtain⟨he3,h⟩:=h
     refine aB<|aw<|zo J (ft J J)<|au<|ac<|bP (ht J) (dU hx1)<|bp ?_;refine ae (ae (aK ?_));refine an ?_;exact bJ (K e4 s3 ⟨he3,h⟩) (bg J)
    ·obtain⟨hx1,h⟩:=h
     obtain⟨he3,h⟩:=h
     refine aB<|aw<|zo J (ft J J)<|au<|ac<|bO (ht J) (dN hx1)<|dz<|ac<|ax<|aw<|zo J (iQ dc bA J J J (dO hx1))<|zo J (bm bA J J)<|bu J<|au<|ac<|bz h fun e6 q_e6 h=>bz h fun r2 q_r2 h=>?_
     refine eu (ts:=[_,_,_,_,_,_,_,_,_]) mixed J J
      ⟨ef 1 J J J (bD iN fm J J),
      ⟨cT 32 0 J J J (bm jh J J),
      ⟨ef 6 J J J (cG J),
      ⟨dG 33 1 34 2 J J J J (iQ kx gk J J J q_e6),
      ⟨cT 35 3 J J J (bm gk J J),
      ⟨ef 2 J J J (bm bA J J),
      ⟨dG 36 4 37 5 J J J J (aC Wi (Po _ _ q_r2) ⟨(ht J),(ht J),aT⟩),
      ⟨cT 38 6 J J J (fW dc J),
      ⟨Vn J J (bQ hI),
      aT⟩⟩⟩⟩⟩⟩⟩⟩⟩ ?_
     refine aq<|ax<|br (k:=38) J fun hN2=>bB ?_;refine aP (sL (Z:=fun ls2 i2 e7 s4=>(r2.drop i2=ls2)∧I s4 e7∧vj yld i r (rO p nodes yld (mj p nodes yld tl) i r tl1) e5 ls2 s4=some R) (Of:=fun _ i2 e7 s4=>[e7]) (Gf:=fun _ i2 e7 s4=>[(0,tV yv),(1,bt bG p),(2,bt cx nodes),(4,cb (i:Int)),(6,cb r),(8,cb e5),(12,fc (aH) p.Frags),(13,jV p.Frags),(14,cb (i:Int)),(26,dI r1),(27,jV r1),(28,cb (i1:Int)),(38,dI r2),(39,jV r2),(40,cb (i2:Int))]) (fun i2 e7 s4 h=>?_) (fun e8 tl2 ih2 i2 e7 s4 h=>?_) r2 0 e4 s3 ⟨J,⟨he3,h⟩⟩) (bg J)
     ·obtain⟨hx2,h⟩:=h
      obtain⟨he4,h⟩:=h
      refine aB<|aw<|zo J (ft J J)<|au<|ac<|bP (ht J) (dU hx2)<|bp ?_;refine ae (ae (aK ?_));refine an<|aq<|am<|zo rfl (nh (dm hx1 hN1) rfl)<|aE rfl<|aJ ?_;exact be (aP (ih1 (i1+1) e7 s4 ⟨dl hx1,⟨he4,h⟩⟩) (bg J))
     ·obtain⟨hx2,h⟩:=h
      obtain⟨he4,h⟩:=h
      refine aB<|aw<|zo J (ft J J)<|au<|ac<|bO (ht J) (dN hx2)<|dz<|ac<|ax<|aw<|zo J (iQ dc bA J J J (dO hx2))<|zo J (bm bA J J)<|bu J<|au<|aw<|aE J<|aE J<|aE J ?_;refine aE J<|zo J (cm (y:=(⟨(i:Int),e5,e8⟩:ep)) JQ Yj Fh (⟨_,_,_,_,_,J,H6,J,(ht J),⟨_,_,_,_,_,J,H5,J,(ht J),⟨_,_,_,_,_,J,H4,J,(ht J),J⟩⟩⟩))<|aE J<|bz h fun r3 q_r3 h=>Ew hy he4 q_r3 (ht J) ⟨(ht J),(ht J),aT⟩ J fun e9 he5=>zo J (dh (ht J))<|au<|cE h J (fun h=>?_) (fun h=>?_)
      ·refine ak ?_;refine ay (M (M (ay (ay (M (M (ay (ay (M (M (ay ?_)))))))))));cases so h;exact HB J he5 hB trivial
      ·refine bk<|an<|aq<|am<|zo rfl (nh (dm hx2 hN2) rfl)<|aE rfl<|aJ ?_;exact be (aP (ih2 (i2+1) e9 r3.2 ⟨dl hx2,⟨he5,h⟩⟩) (bg J))

theorem Q6(p:dp)(nodes:Int){R:It (ep×Int)}(h:Ip p nodes=some R):zN bl 83 [tD bG p,cb nodes] JJ R:=by
 refine zN.of Tryz.func83 J J J fun w0 S0=>aw<|zo J (jt J)<|zo J (jt J)<|zo J (aU hV)<|au<|aw<|Cu (O1:=[]) (cts:=[bt bG p,bt cx nodes]) (caps:=[.tmp 2,.tmp 3]) J XC (R4 p nodes) ⟨(ht J),(ht J),aT⟩ J fun v fp=>bu J<|au<|ak ?_;cases so h;exact JA J J

theorem Uu(p:dp)(nodes:Int)(holds:(ep→Int→Option Bool)){R:(List ep)}(h:FG p nodes holds=some R):bo bl 48 [tD bG p,cb nodes,(kz bl JJ qr (fun(x:ep×Int)=>holds x.1 x.2))] (fc (gM) R):=by
 refine Et Tryz.func48 J J J fun w0 S0=>aw<|zo J (jt J)<|zo J (GW (ht J))<|zo J (aU (show aZ _ _ _ S9 from jr))<|au<|aw<|cd false gM 52<|bj (x:=aV none 0 0) QD (fun _=>OC) J fun b=>au<|ac<|aw<|zo J (bm jm J J)<|aE J<|bz h fun it q_it h=>Gi Yr (Q6 _ _ q_it) ⟨(ht J),(ht J),aT⟩ J fun v fp=>au<|ax ?_
 obtain⟨s,q_s,h⟩:=bs h
 refine NT (fun(i:Option Nat×Nat×List ep)=>[bx rV 46 b (aV i.1 i.2.1 i.2.2.length),ga gM 52 i.1 i.2.1 i.2.2]) (fun(i:Option Nat×Nat×List ep)=>(i.2.2)) J (ht J) (none,0,([]:List ep)) J q_s (fun _=>J) J (fun i x s2 h lp rec1 _ _ _=>?_) (fun i hi bd=>?_)
 ·obtain⟨l,c,xs⟩:=i
  replace h:Ar holds x xs=some s2:=h
  refine(show CG _ _ _ [wi lp rec1 .ready,bx rV 46 b (aV l c xs.length),ga gM 52 l c xs] _ from ?_);refine EE (G' :=[(0,tD bG p),(1,cb nodes),(2,(kz bl JJ qr (fun(x:ep×Int)=>holds x.1 x.2))),(3,bt bG p),(5,bt (rT ((kz bl JJ qr (fun(x:ep×Int)=>holds x.1 x.2)))) ()),(6,fc (gM) ([])),(7,tV (aM b 0)),(10,tD bG p),(11,cb nodes),(13,tD gM x.1),(14,cb x.2)]) ?_ ⟨J,J,J,J,J,J,J,J,J,J,J,aT⟩;refine aw<|bj (r:=gM) (x:=(⟨(0:Int),(0:Int),(0:Int)⟩:ep)) JQ (fun _=>Fh _) J fun b1=>ai JQ J aj J (ht J) (ht J)<|bh 8 J<|au<|am<|bu J<|aJ<|Qs<|ax<|aw<|zo J (Ay VN (ht J))<|zo J (bm JQ J J)<|aE J<|bz h fun r q_r h=>zo J (lS (args:=(fun(x:ep×Int)=>[tD gM x.1,tD cx x.2])) (res:=JI) (f:=(fun(x:ep×Int)=>holds x.1 x.2)) (x:=((x.1,x.2):ep×Int)) (ht J) q_r ⟨(ht J),(ht J),aT⟩)<|au<|cE h J (fun h=>?_) (fun h=>?_)
  ·refine am<|zo J (sy QD (.tail _ (.head _)) (ht J))<|zo J (bm JQ J J)<|zo J (aN (r:=gM) (ys:=[x.1]) (xs:=[.tmp 20]) Tryz.underlying46 JQ J J J J J ⟨(ht J),aT⟩)<|c0<|bz h fun l1 q_l1 h=>cK JQ J J J J Tryz.underlying46 J J (ht J) (ht J) q_l1 fun l2 c1=>c0<|ai QD J aj J (ht J) (N1 (ht J))<|aJ<|an<|bE<|bE<|aD ?_;exact Cw (l2,c1,l1) (so h) J
  ·refine bk<|an ?_;exact Cw (l,c,xs) (so h) J
 ·skip
  obtain⟨l3,c2,xs1⟩:=i
  have hi:xs1=s:=hi
  subst hi
  refine(show AT _ _ _ [CP bd,bx rV 46 b (aV l3 c2 xs1.length),ga gM 52 l3 c2 xs1] _ from ?_);refine bJ (G' :=[(0,tD bG p),(1,cb nodes),(2,(kz bl JJ qr (fun(x:ep×Int)=>holds x.1 x.2))),(3,bt bG p),(5,bt (rT ((kz bl JJ qr (fun(x:ep×Int)=>holds x.1 x.2)))) ()),(6,fc (gM) ([])),(7,tV (aM b 0)),(10,tD bG p),(11,cb nodes)]) ?_ ⟨J,J,J,J,J,J,J,J,J,aT⟩;refine an<|aq<|aw<|zo rfl (sy QD (.tail _ (.head _)) (ht rfl))<|bu rfl<|au<|ak<|aD<|gV<|cC 6 rfl<|cC 23 rfl<|ik 6 rfl<|aL<|bE<|aL<|A7<|vP ?_;cases so h;exact aF J J

theorem Ut(p:ep)(p1:Int){R:Bool}(h:xC p p1=some R):bo bl 49 [tD gM p,cb p1] (gq R):=by
 refine bo.of Tryz.func49 J J J fun w0 S0=>aw<|zo J (jt J)<|zo J (ez)<|au<|aw<|zo J (ez)<|au<|ak ?_;cases so h;exact aF J J

theorem UM(p:dp)(nodes:Int){R:(List ep)×Int}(h:As p nodes=some R):bo bl 17 [tD bG p,cb nodes] (tT [fc (gM) R.1,cb R.2]):=by
 refine bo.of Tryz.func17 J J J fun w0 S0=>aw<|zo J (jt J)<|zo J (aU (show aZ _ _ _ S9 from jr))<|zo J (dB)<|au<|ac<|aw<|zo J (bm jm J J)<|aE J<|bz h fun r q_r h=>zo J (aC YP (Uw _ _ _ q_r) ⟨(ht J),hI,(ht J),aT⟩)<|bu J<|au<|aw<|aE J<|zo J (Gw J)<|au ?_;refine cE h J (fun h=>?_) (fun h=>?_)
 ·refine aw<|aE J<|zo J (aU (show aZ _ _ _ S9 from jr))<|bu J<|au<|ak<|M ?_;cases so h;exact co J J J
 ·refine dz<|aw<|zo J (bm jm J J)<|aE J<|bz h fun r1 q_r1 h=>zo J (aC YN (Uu _ _ _ q_r1) ⟨(ht J),(ht J),(T4 YM fun x y h=>Ut _ _ h),aT⟩)<|bu J<|zo J (dB)<|au<|ak ?_;cases so h;exact co J J J

theorem UI{R:ce}(h:Cj=some R):bo bl 29 [] (tD da R):=by
 refine bo.of Tryz.func29 J J J fun w0 S0=>aw<|bj (r:=da) (x:=(⟨[]⟩:ce)) yL (fun _=>zh _) J fun b=>au<|aw<|zo J (cm (y:=Tb) pq T8 qa (⟨_,_,_,_,_,J,xr,J,hS,⟨_,_,_,_,_,J,xq,J,hI,J⟩⟩))<|zo J (cm (y:=Tc) pq T8 qa (⟨_,_,_,_,_,J,xr,J,hS,⟨_,_,_,_,_,J,xq,J,hI,J⟩⟩))<|zo J (aN (r:=dR) (ys:=[Tb,Tc]) (xs:=[.tmp 1,.tmp 2]) sO pq J J J J J ⟨(ht J),(ht J),aT⟩)<|zo J (aN (r:=cx) (ys:=[(0:Int)]) (xs:=[.const (.int .i64 (0))]) dc bA J J J J J ⟨hI,aT⟩)<|zo J (cm (y:=Ts) se VX Ab (⟨_,_,_,_,_,J,Dz,J,hS,⟨_,_,_,_,_,J,Dy,J,(ht J),⟨_,_,_,_,_,J,J0,J,(ht J),J⟩⟩⟩))<|zo J (cm (y:=Tf) pq T8 qa (⟨_,_,_,_,_,J,xr,J,hS,⟨_,_,_,_,_,J,xq,J,hI,J⟩⟩))<|zo J (aN (r:=dR) (ys:=[Tf]) (xs:=[.tmp 6]) sO pq J J J J J ⟨(ht J),aT⟩)<|zo J (cm (y:=Td) se VX Ab (⟨_,_,_,_,_,J,Dz,J,hS,⟨_,_,_,_,_,J,Dy,J,(ht J),J⟩⟩))<|zo J (aN (r:=di) (ys:=[Ts,Td]) (xs:=[.tmp 5,.tmp 8]) ux se J J J J J ⟨(ht J),(ht J),aT⟩)<|zo J (cm (y:=(⟨[Ts,Td]⟩:ce)) yL Yk zh (⟨_,_,_,_,_,J,GI,J,(ht J),J⟩))<|ai yL J aj J (ht J) (ht J)<|bh 0 J<|au<|ak ?_;cases so h;exact dF J yL J J J

theorem V2{R:Bool}(h:xK=some R):bo bl 8 [] (gq R):=by
 refine bo.of Tryz.func8 J J J fun w0 S0=>aw<|zo J (ez)<|au<|aw<|zo J (aN (r:=cx) (ys:=[(2:Int)]) (xs:=[.const (.int .i64 (2))]) dc bA J J J J J ⟨hI,aT⟩)<|zo J (cm (y:=Tq) cz Nm iT (⟨_,_,_,_,_,J,ra,J,hI,⟨_,_,_,_,_,J,mf,J,hI,⟨_,_,_,_,_,J,k7,J,hI,⟨_,_,_,_,_,J,v7,J,hI,⟨_,_,_,_,_,J,tW,J,(ht J),J⟩⟩⟩⟩⟩))<|zo J (cm (y:=Ta) nX T9 zi (⟨_,_,_,_,_,J,DE,J,hI,J⟩))<|zo J (aN (r:=dP) (ys:=[Ta]) (xs:=[.tmp 8]) nC nX J J J J J ⟨(ht J),aT⟩)<|zo J (cm (y:=TA) cz Nm iT (⟨_,_,_,_,_,J,ra,J,hI,⟨_,_,_,_,_,J,k7,J,hI,⟨_,_,_,_,_,J,DA,J,(ht J),J⟩⟩⟩))<|zo J (aN (r:=ah) (ys:=[Tq,TA]) (xs:=[.tmp 7,.tmp 10]) om cz J J J J J ⟨(ht J),(ht J),aT⟩)<|zo J (cm (y:=QC) lx Pg pp (⟨_,_,_,_,_,J,zw,J,(ht J),J⟩))<|bj (r:=ck) (x:=HO) lx (fun _=>pp _) J fun b=>ai lx J aj J (ht J) (ht J)<|bh 1 J<|au<|ac<|bz h fun r q_r h=>bz h fun r1 q_r1 h=>?_
 refine iK 8 [tc (tD ck QC),tc (tD da r),tc (tT [tD bG r1.1,cb r1.2]),tc (tT [tD bG r1.1,cb r1.2]),tc (tD bG r1.1),tc (cb r1.2),([6],fun s=>tV (aM ((s.getD 0 nz).h 0).2 0)),tc (Af)] [false,false,false,false,false,false,true,true] [fun _=>[],fun sg=>[bx bG 33 ((sg 6).h 0).2 jX],fun sg=>[bx bG 33 ((sg 6).h 0).2 r1.1]] J mixed J J J J J
  ⟨⟨[⟨1,fun _=>bt ck QC,none⟩],_,0,1,J,⟨(fun _=>J),aT⟩,J,J,J,J,J,fun _ sg _ _=>aa J (bm lx J J)⟩,
  ⟨⟨[],_,0,1,J,aT,J,J,J,J,J,fun _ sg _ _=>aa J (aC Y0 (UI q_r) trivial)⟩,
  ⟨⟨[⟨14,fun _=>tD ck QC,some 0⟩,⟨15,fun _=>tD da r,some 1⟩],_,0,1,J,⟨(fun _=>J),(fun _=>J),aT⟩,J,J,J,J,J,fun _ sg _ _=>aa J (aC XL (PB _ _ q_r1) ⟨(ht J),(ht J),aT⟩)⟩,
  ⟨⟨[⟨16,fun _=>tT [tD bG r1.1,tD cx r1.2],some 2⟩],_,0,1,J,⟨(fun _=>J),aT⟩,J,J,J,J,J,fun _ sg _ _=>aa J (cG J)⟩,
  ⟨⟨[⟨13,fun _=>tT [tD bG r1.1,tD cx r1.2],some 3⟩],_,0,1,J,⟨(fun _=>J),aT⟩,J,J,J,J,J,fun _ sg _ _=>aa J (kG J J)⟩,
  ⟨⟨[⟨13,fun _=>tT [tD bG r1.1,tD cx r1.2],some 3⟩],_,0,2,J,⟨(fun _=>J),aT⟩,J,J,J,J,J,fun _ sg _ _=>aa J (kG J J)⟩,
  ⟨⟨[],_,J,aT,J,J,J,fun sg=>bN J (ev (r:=bG) (x:=jX) jm (fun _=>jG _))⟩,
  ⟨⟨[⟨2,fun sg=>tV (aM ((sg 6).h 0).2 0),some 6⟩,⟨17,fun _=>tD bG r1.1,some 4⟩],_,J,⟨(fun _=>J),(fun _=>J),aT⟩,J,J,J,fun sg=>bN J (mw jm J (ve aj) J (ht J) (ht J))⟩,
  aT⟩⟩⟩⟩⟩⟩⟩⟩ (fun sg=>?_)
 refine(show RG _ _ _ _ [bx bG 33 ((sg 6).h 0).2 r1.1] _ from ?_);refine bh 2 J<|bu J<|au<|aw<|zo J (bm jm J J)<|bz h fun r2 q_r2 h=>zo J (aC Y2 (UM _ _ q_r2) ⟨(ht J),hI,aT⟩)<|aE J<|zo J (kG J J)<|zo J (kG J J)<|bu J<|bu J<|au<|aw<|aE J<|zo J (iz J)<|aE J<|bX J J (fun hg=>cG J)<|bX J J (fun hg=>cw (aS J hg) hI)<|zo J (mI J J) ?_;refine aE J<|bX J J (fun hg=>bD iN fm J J)<|bX J J (fun hg=>aI jh J J (aS J hg))<|bX J J (fun hg=>bU kx (aS J hg))<|bX J J (fun hg=>cw (aS J hg) hI)<|zo J (mI J J)<|aE J<|bz h fun t q_t h=>bX J J (fun hg=>bD iN fm J J)<|bX J J (fun hg=>aI jh J J (aS J hg)) ?_
 obtain⟨e,h1t,h0t⟩:=og q_t
 have q_eg:=fun hb=>(h1t hb).1
 refine bX J J (fun hg=>aQ kx gk J (aS J hg) hI (q_eg hg))<|bX J J (fun hg=>d6 zK J rs J (aS J hg))<|bX J J (fun hg=>aI iB J J (aS J hg))<|bX J J (fun hg=>bU om (aS J hg))<|bX J J (fun hg=>cw (aS J hg) hI)<|zo J (cS (ht J) (fun hb=>(aS J hb)) (fun hb=>(h1t hb).2) h0t)<|aE J<|bz h fun t1 q_t1 h=>bX J J (fun hg=>bD iN fm J J)<|bX J J (fun hg=>aI jh J J (aS J hg)) ?_
 obtain⟨e1,h1t1,h0t1⟩:=og q_t1
 have q_e1g:=fun hb=>(h1t1 hb).1
 refine bX J J (fun hg=>aQ kx gk J (aS J hg) hI (q_e1g hg))<|bX J J (fun hg=>d6 zK J rs J (aS J hg))<|bX J J (fun hg=>aI iB J J (aS J hg)) ?_
 obtain⟨e2,h1t1⟩:=OR (fun hb=>(h1t1 hb).2)
 have q_e2g:=fun hb=>(h1t1 hb).1
 refine bX J J (fun hg=>aQ om cz J (aS J hg) hI (q_e2g hg))<|bX J J (fun hg=>d6 lh J eP J (aS J hg))<|bX J J (fun hg=>aI bA J J (aS J hg))<|bX J J (fun hg=>cw (aS J hg) hI)<|zo J (cS (ht J) (fun hb=>(aS J hb)) (fun hb=>(h1t1 hb).2) h0t1)<|aE J<|bX J J (fun hg=>cG J)<|bX J J (fun hg=>bU Tryz.underlying46 (aS J hg))<|bX J J (fun hg=>cw (aS J hg) hI)<|zo J (mI J J)<|bu J<|au<|ak ?_;cases so h;exact aF J J

theorem Kz(e:bf){R:Bool}(h:mT e=some R):bo bl 30 [tD bn e] (gq R):=by
 refine bo.of Tryz.func30 J J J fun w0 S0=>aw<|zo J (jt J)<|zo J (ez)<|au<|ac<|aw<|zo J (bD de bZ J J)<|zo J (bm ir J J)<|zo J (fW oo J)<|zo J (d5 (ht J) hI)<|au<|cE h J (fun h=>?_) (fun h=>?_)
 ·refine aw<|zo J (ez)<|au<|ak<|M ?_;cases so h;exact aF J J
 ·refine dz<|ac<|aw<|zo J (bD de bZ J J)<|zo J (bm ir J J)<|zo J (fW oo J)<|zo J (bQ hI)<|au<|ax<|br (k:=10) J fun hN=>bB ?_;refine aP (em (Z:=fun ls i=>(e.Nodes.drop i=ls)∧lV ls=some R) (Of:=fun _ i=>[]) (Gf:=fun _ i=>[(10,fc (bc) e.Nodes),(11,jV e.Nodes),(12,cb (i:Int))]) (fun i h=>?_) (fun e1 tl ih i h=>?_) e.Nodes 0 ⟨J,h⟩) (bg J)
  ·obtain⟨hx,h⟩:=h
   refine aB<|aw<|zo J (ft J J)<|au<|ac<|bP (ht J) (dU hx)<|bp ?_;refine ae (ae (aK ?_));refine aq<|aw<|zo rfl (ez)<|au<|ak ?_;cases so h;exact aF J J
  ·obtain⟨hx,h⟩:=h
   refine aB<|aw<|zo J (ft J J)<|au<|ac<|bO (ht J) (dN hx)<|dz<|ac<|ax<|aw<|zo J (iQ oo cR J J J (dO hx))<|zo J (bm cR J J)<|bj (r:=bc) (x:=Dl) cR (fun _=>kZ _) J fun b=>ai cR J aj J (ht J) (ht J)<|bh 4 J<|au<|aw<|zo J (bD tw mu J J) ?_;refine zo J (bD wy p5 J J)<|zo J (bm A9 J J)<|zo J (rP kf (ht J))<|zo J (d5 (ht J) hI)<|au<|cE h J (fun h=>?_) (fun h=>?_)
   ·refine aw<|zo J (ez)<|au<|ak ?_;refine ay (M (M (ay (M ?_))));cases so h;exact aF J J
   ·refine bk<|an<|aq<|am<|zo rfl (nh (dm hx hN) rfl)<|aE rfl<|aJ ?_;exact be (aP (ih (i+1) ⟨dl hx,h⟩) (bg J))

end Go.Proofs.YtnmjbolollcokaaGreatDoor

