/- dr of this claim: P16. -/
import Derived.Test.YtnmjbolollcokaaGreatDoorRdT
import Derived.Test.YtnmjbolollcokaaGreatDoorRdP15
set_option linter.all false
namespace Go.Proofs.YtnmjbolollcokaaGreatDoor
open Go
set_option maxRecDepth 100000

theorem UA(c:ce){R:Bool}(h:uH c=some R):bo bl 40 [tD da c] (gq R):=by
 refine bo.of Tryz.func40 J J J fun w0 S0=>aw<|zo J (jt J)<|zo J (ez)<|au<|ac<|aw<|zo J (bD oM eM J J)<|zo J (bm xi J J)<|zo J (fW ux J)<|zo J (d5 (ht J) hI)<|au<|cE h J (fun h=>?_) (fun h=>?_)
 ·refine aw<|zo J (ez)<|au<|ak<|M ?_;cases so h;exact aF J J
 ·refine dz<|ac<|aw<|zo J (dB)<|au<|ax<|bB ?_;refine aP (pg (Z:=fun n i=>mR c n i=some R) (Of:=fun i=>[]) (Gf:=fun i=>[(1,bt da c),(3,cb i)]) (fun i h=>nn h) (fun n ih i h=>?_) cZ (0:Int) h) (bg J);refine aB<|ac<|aw<|aE J<|zo J (bD oM eM J J)<|zo J (bm xi J J)<|zo J (fW ux J)<|zo J (ft J J)<|au<|cE h J (fun h=>?_) (fun h=>?_)
  ·refine dz<|ac<|ax<|ac<|aw<|zo J (bD oM eM J J)<|zo J (bm xi J J)<|aE J<|bz h fun e q_e h=>zo J (iQ ux se J J J q_e)<|zo J (bm se J J)<|bz h fun r q_r h=>zo J (aC Yv (Uk _ q_r) ⟨(ht J),aT⟩)<|zo J (dh (ht J))<|au<|cE h J (fun h=>?_) (fun h=>?_)
   ·refine aw<|zo J (ez)<|au<|ak ?_;refine M (ay (M (M (ay (M ?_)))));cases so h;exact aF J J
   ·refine dz<|aw<|zo J (dB)<|au<|ax<|bB ?_;refine aP (pg (Z:=fun n1 k=>oD c (mR c n) i e n1 k=some R) (Of:=fun k=>[]) (Gf:=fun k=>[(1,bt da c),(3,cb i),(4,cb k)]) (fun k h=>nn h) (fun n1 ih1 k h=>?_) cZ (0:Int) h) (bg J);refine aB<|ac<|aw<|aE J<|aE J<|zo J (ft J J)<|au<|cE h J (fun h=>?_) (fun h=>?_)
    ·refine dz<|ac<|ax<|ac<|bz h fun e1 q_e1 h=>?_
     refine eu (ts:=[_,_,_,_,_,_,_,_,_,_,_,_,_]) mixed J J
      ⟨ef 1 J J J (bD oM eM J J),
      ⟨cT 28 0 J J J (bm xi J J),
      ⟨ef 4 J J J (cG J),
      ⟨dG 29 1 30 2 J J J J (iQ ux se J J J q_e1),
      ⟨cT 31 3 J J J (bD BH rr J J),
      ⟨cT 32 4 J J J (bm A9 J J),
      ⟨ef 1 J J J (bD oM eM J J),
      ⟨cT 34 6 J J J (bm xi J J),
      ⟨ef 3 J J J (cG J),
      ⟨dG 35 7 36 8 J J J J (iQ ux se J J J q_e),
      ⟨cT 37 9 J J J (bD BH rr J J),
      ⟨cT 38 10 J J J (bm A9 J J),
      ⟨dG 33 5 39 11 J J J J (qI (ht J) (ht J)),
      aT⟩⟩⟩⟩⟩⟩⟩⟩⟩⟩⟩⟩⟩ ?_
     refine aq<|cE h rfl (fun h=>?_) (fun h=>?_)
     ·refine aw<|zo J (ez)<|au<|ak ?_;refine ay (M (M (ay (ay (M (M (ay (M ?_))))))));cases so h;exact aF J J
     ·refine bk<|an<|aq<|am<|aE rfl<|zo rfl (ei (ht rfl) hI)<|bu rfl<|aJ ?_;exact be (aP (ih1 (IntKind.i64.wrap (k+(1:Int))) h) (bg J))
    ·refine bp ?_;refine ae (ae (aK ?_));refine an<|aq<|am<|aE rfl<|zo rfl (ei (ht rfl) hI)<|bu rfl<|aJ ?_;exact be (aP (ih (IntKind.i64.wrap (i+(1:Int))) h) (bg J))
  ·refine bp ?_;refine ae (ae (aK ?_));refine aq<|aw<|zo rfl (ez)<|au<|ak ?_;cases so h;exact aF J J

theorem Uz(l:bR)(c:ce){R:Bool}(h:xx l c=some R):bo bl 41 [tD ck l,tD da c] (gq R):=by
 refine bo.of Tryz.func41 J J J fun w0 S0=>aw<|zo J (jt J)<|zo J (jt J)<|zo J (ez)<|au<|ac<|aw<|zo J (dB)<|au<|ax<|bB ?_;refine aP (pg (Z:=fun n i=>il l c n i=some R) (Of:=fun i=>[]) (Gf:=fun i=>[(2,bt ck l),(3,bt da c),(5,cb i)]) (fun i h=>nn h) (fun n ih i h=>?_) cZ (0:Int) h) (bg J);refine aB<|ac<|aw<|aE J<|zo J (bD jn dM J J)<|zo J (bm iB J J)<|zo J (fW om J)<|zo J (ft J J)<|au<|cE h J (fun h=>?_) (fun h=>?_)
 ·refine dz<|ac ?_;refine BV (Z:=oz (il l c n) i=some R) (Of:=[]) (Gf:=[(2,bt ck l),(3,bt da c),(5,cb i)]) (fun h=>?_) (fun K=>?_)
  ·skip
   refine aq<|am<|aE rfl<|zo rfl (ei (ht rfl) hI)<|bu rfl<|aJ ?_;exact be (aP (ih (IntKind.i64.wrap (i+(1:Int))) h) (bg J))
  ·skip
   refine aw<|zo J (bD jn dM J J)<|zo J (bm iB J J)<|aE J<|bz h fun e q_e h=>zo J (iQ om cz J J J q_e)<|zo J (bm cz J J)<|bj (r:=ah) (x:=zk) cz (fun _=>iT _) J fun b=>ai cz J aj J (ht J) (ht J)<|bh 6 J<|au<|ac<|aw<|zo J (bD lh eP J J)<|zo J (bm bA J J)<|zo J (Gw J)<|au<|cE h J (fun h=>?_) (fun h=>?_)
   ·refine bp ?_;refine ae (aK ?_);exact bJ (K h) (bg J)
   ·refine dz<|ac<|ac<|bz h fun t q_t h=>?_
    obtain⟨e1,h1t,h0t⟩:=og q_t
    have q_e1g:=fun hb=>(h1t hb).1
    refine eu (ts:=[_,_,_,_,_,_,_,_,_,_,_,_,_,_,_,_,_,_,_,_]) mixed J J
     ⟨ef 6 J J J (bD oL hZ J J),
     ⟨cT 23 0 J J J (bm bA J J),
     ⟨ef 3 J J J (bD oM eM J J),
     ⟨cT 25 2 J J J (bm xi J J),
     ⟨cT 26 3 J J J (fW ux J),
     ⟨dG 24 1 27 4 J J J J (cU (ht J) (ht J)),
     ⟨cT 28 5 J J J (cG J),
     ⟨oj 3 29 6 J J J J (dx J J J J (fun hg=>bD oM eM J J)),
     ⟨gj 30 7 29 6 J J J J (dx J J J J (fun hg=>aI xi J J (aS J hg))),
     ⟨oj 6 29 6 J J J J (dx J J J J (fun hg=>bD oL hZ J J)),
     ⟨gj 32 9 29 6 J J J J (dx J J J J (fun hg=>aI bA J J (aS J hg))),
     ⟨sd 31 8 33 10 29 6 J J J J J (dx J J J J (fun hg=>aQ ux se J (aS J hg) (aS J hg) (q_e1g hg))),
     ⟨gj 34 11 29 6 J J J J (dx J J J J (fun hg=>d6 pn J hY J (aS J hg))),
     ⟨gj 35 12 29 6 J J J J (dx J J J J (fun hg=>aI yJ J J (aS J hg))),
     ⟨gj 36 13 29 6 J J J J (dx J J J J (fun hg=>bU sO (aS J hg))),
     ⟨oj 6 29 6 J J J J (dx J J J J (fun hg=>bD ly fq J J)),
     ⟨gj 38 15 29 6 J J J J (dx J J J J (fun hg=>aI cD J J (aS J hg))),
     ⟨gj 39 16 29 6 J J J J (dx J J J J (fun hg=>bU dc (aS J hg))),
     ⟨sd 37 14 40 17 29 6 J J J J J (dx J J J J (fun hg=>cF (aS J hg) (aS J hg))),
     ⟨dG 29 6 41 18 J J J J (dj (ht J) (fun hb=>(aS J (nZ hb))) (fun hb=>(h1t hb).2) h0t),
     aT⟩⟩⟩⟩⟩⟩⟩⟩⟩⟩⟩⟩⟩⟩⟩⟩⟩⟩⟩⟩ ?_
    refine aq<|cE h rfl (fun h=>?_) (fun h=>?_)
    ·refine aw<|zo J (ez)<|au<|ak ?_;refine M (ay (M (M (ay (M ?_)))));cases so h;exact aF J J
    ·refine dz<|aw<|zo J (dB)<|au<|ax<|bB ?_;refine aP (pg (Z:=fun n1 k=>mP c (il l c n) i e n1 k=some R) (Of:=fun k=>[]) (Gf:=fun k=>[(2,bt ck l),(3,bt da c),(5,cb i),(6,bt ah e),(7,cb k)]) (fun k h=>nn h) (fun n1 ih1 k h=>?_) cZ (0:Int) h) (bg J);refine aB<|ac<|aw<|aE J<|zo J (bD ly fq J J)<|zo J (bm cD J J)<|zo J (fW dc J)<|zo J (ft J J)<|au<|cE h J (fun h=>?_) (fun h=>?_)
     ·refine dz<|ac<|ax<|ac<|bz h fun e2 q_e2 h=>bz h fun e3 q_e3 h=>bz h fun e4 q_e4 h=>?_
      refine eu (ts:=[_,_,_,_,_,_,_,_,_,_,_,_,_,_,_,_,_]) mixed J J
       ⟨ef 3 J J J (bD oM eM J J),
       ⟨cT 50 0 J J J (bm xi J J),
       ⟨ef 6 J J J (bD oL hZ J J),
       ⟨cT 52 2 J J J (bm bA J J),
       ⟨dG 51 1 53 3 J J J J (iQ ux se J J J q_e2),
       ⟨cT 54 4 J J J (bD pn hY J J),
       ⟨cT 55 5 J J J (bm yJ J J),
       ⟨ef 7 J J J (cG J),
       ⟨dG 56 6 57 7 J J J J (iQ sO pq J J J q_e3),
       ⟨cT 58 8 J J J (bD Ha uY J J),
       ⟨cT 59 9 J J J (bm bA J J),
       ⟨ef 6 J J J (bD ly fq J J),
       ⟨cT 61 11 J J J (bm cD J J),
       ⟨ef 7 J J J (cG J),
       ⟨dG 62 12 63 13 J J J J (iQ dc bA J J J q_e4),
       ⟨cT 64 14 J J J (bm bA J J),
       ⟨dG 60 10 65 15 J J J J (cF (ht J) (ht J)),
       aT⟩⟩⟩⟩⟩⟩⟩⟩⟩⟩⟩⟩⟩⟩⟩⟩⟩ ?_
      refine aq<|cE h rfl (fun h=>?_) (fun h=>?_)
      ·refine aw<|zo J (ez)<|au<|ak ?_;refine ay (M (M (ay (ay (M (M (ay (M ?_))))))));cases so h;exact aF J J
      ·refine bk<|an<|aq<|am<|aE rfl<|zo rfl (ei (ht rfl) hI)<|bu rfl<|aJ ?_;exact be (aP (ih1 (IntKind.i64.wrap (k+(1:Int))) h) (bg J))
     ·refine bp ?_;refine ae (ae (aK ?_));refine an ?_;exact bJ (K h) (bg J)
 ·refine bp ?_;refine ae (ae (aK ?_));refine aq<|aw<|zo rfl (ez)<|au<|ak ?_;cases so h;exact aF J J

theorem xQ(s:bI)(way:Int)(cols:(List Int)){R:bI}(h:iv s way cols=some R):bo bl 77 [tD aW s,cb way,dI cols] (tD aW R):=by
 refine bo.of Tryz.func77 J J J fun w0 S0=>aw<|kO (ht J) J fun b=>bj (r:=aW) (x:=qX) bW (fun _=>jo _) J fun b1=>au<|aw<|zo J (dy 1 mF J J J)<|zo J (aA iB J J jA (.tail _ (.head _)) (ht J))<|aE J<|aE J<|zo J (cm (y:=(⟨s.Nodes,(1:Int),way,cols⟩:bK)) gk G3 mC (⟨_,_,_,_,_,J,oX,J,(ht J),⟨_,_,_,_,_,J,nM,J,hI,⟨_,_,_,_,_,J,oW,J,(ht J),⟨_,_,_,_,_,J,Fx,J,(ht J),J⟩⟩⟩⟩))<|bj (r:=aH) (x:=zl) gk (fun _=>mC _) J fun b2=>ai gk J aj J (ht J) (ht J)<|au ?_;refine dD (Z:=fun f=>pw s way cols f=some R) (Of:=fun f=>[bx aW 102 b s,bx aW 102 b1 qX,bx aH 74 b2 f]) (Gf:=fun f=>[(1,cb way),(2,dI cols),(3,tV (aM b 0)),(6,tV (aM b1 0)),(7,tV (aM b2 0))]) (fun f h=>?_) (fun K=>?_)
 ·skip
  refine ac<|bz h fun l q_l h=>?_
  refine iK 6 [([0],fun s=>tO aH ((s.getD 0 nz).h 0).1 ((s.getD 0 nz).h 0).2 Bj),tc (tV (aM b 0)),tc (fc (aH) s.Frags),([3],fun s=>tO aH ((s.getD 0 nz).h 0).1 ((s.getD 0 nz).h 0).2 l),tc (tD aH f),tc (fc (aH) ([f]))] [true,false,false,true,false,false] [fun _=>[bx aW 102 b s,bx aW 102 b1 qX,bx aH 74 b2 f],fun sg=>[tip aH 74 ((sg 0).h 0).1 ((sg 0).h 0).2 Bj,bx aW 102 b s,bx aW 102 b1 qX,bx aH 74 b2 f],fun sg=>[tip aH 74 ((sg 3).h 0).1 ((sg 3).h 0).2 l,bx aW 102 b s,bx aW 102 b1 qX,bx aH 74 b2 f]] J mixed J J J J J
   ⟨⟨[],_,J,aT,J,J,J,fun sg=>bN J (wC (r:=aH) (ys:=Bj) (xs:=[]) kx gk J J J J J trivial)⟩,
   ⟨⟨[⟨3,fun _=>tV (aM b 0),none⟩],_,0,1,J,⟨(fun _=>J),aT⟩,J,J,J,J,J,fun _ sg _ _=>aa J (dy 0 ic J J J)⟩,
   ⟨⟨[⟨17,fun _=>tV (aM b 0),some 1⟩],_,0,1,J,⟨(fun _=>J),aT⟩,J,J,J,J,J,vV (fun sg=>aa J (aA jh J J iG (.head _) (ht J))) (tU (fun sg=>aa J (aA jh J J iG (.tail _ (.head _)) (ht J))))⟩,
   ⟨⟨[⟨16,fun sg=>tO aH ((sg 0).h 0).1 ((sg 0).h 0).2 Bj,some 0⟩,⟨18,fun _=>tD zj s.Frags,some 2⟩],_,J,⟨(fun _=>J),(fun _=>J),aT⟩,J,J,J,fun sg=>bN J (jR gk J J J J kx J (ht J) (ht J) q_l)⟩,
   ⟨⟨[⟨7,fun _=>tV (aM b2 0),none⟩],_,0,2,J,⟨(fun _=>J),aT⟩,J,J,J,J,J,vV (fun sg=>aa J (aA gk J J aR (.tail _ (.tail _ (.head _))) (ht J))) (vV (fun sg=>aa J (aA gk J J aR (.tail _ (.tail _ (.tail _ (.head _)))) (ht J))) (tU (fun sg=>aa J (aA gk J J aR (.tail _ (.tail _ (.tail _ (.head _)))) (ht J)))))⟩,
   ⟨⟨[⟨20,fun _=>tD aH f,some 4⟩],_,0,2,J,⟨(fun _=>J),aT⟩,J,J,J,J,J,fun _ sg _ _=>aa J (aN (r:=aH) (ys:=[f]) (xs:=[.tmp 20]) kx gk J J J J J ⟨(ht J),aT⟩)⟩,
   aT⟩⟩⟩⟩⟩⟩ (fun sg=>?_)
  refine(show RG _ _ _ _ [tip aH 74 ((sg 3).h 0).1 ((sg 3).h 0).2 l,bx aW 102 b s,bx aW 102 b1 qX,bx aH 74 b2 f] _ from ?_);refine bz h fun l1 q_l1 h=>my gk J J J J kx J J (ht J) (ht J) q_l1 fun l2 c=>zo J (dy 0 ic J J J)<|bL<|ai jh J lA J (ht J) (kT (ht J))<|au<|aw<|zo J (dy 0 ic J J J)<|zo J (aA (x:=(bI.mk l1 s.Nodes s.Kinds s.One s.Hashed)) jh J J iG (.head _) (ht J))<|zo J (fW kx J)<|zo J (dL (ht J) hI)<|zo J (dy 2 Hd J J J)<|zo J (aA (x:=(bI.mk l1 s.Nodes s.Kinds s.One s.Hashed)) cD J J F0 (.head _) (ht J))<|zo J (cm (y:=(⟨(9:Int),mK,mK,(IntKind.i64.wrap ((l1.length:Int)-(1:Int))),s.Kinds,false,nD,[],[],[],[],(0:Int)⟩:af)) cz Nm iT (⟨_,_,_,_,_,J,ra,J,hI,⟨_,_,_,_,_,J,mf,J,hI,⟨_,_,_,_,_,J,k7,J,hI,⟨_,_,_,_,_,J,v7,J,(ht J),⟨_,_,_,_,_,J,tW,J,(ht J),J⟩⟩⟩⟩⟩))<|zo J (aN (r:=ah) (ys:=[(⟨(9:Int),mK,mK,(IntKind.i64.wrap ((l1.length:Int)-(1:Int))),s.Kinds,false,nD,[],[],[],[],(0:Int)⟩:af)]) (xs:=[.tmp 30]) om cz J J J J J ⟨(ht J),aT⟩)<|zo J (dy 1 mF J J J)<|ai iB J yi J (ht J) (ht J)<|au<|aw<|aE J ?_;refine zo J (iz J)<|zo J (dy 3 nq J J J)<|ai yK J Bo J (ht J) (ht J)<|au<|aw<|aE J<|zo J (dy 4 kL J J J)<|ai cD J oV J (ht J) (ht J)<|au<|aw<|zo J (aA (x:=(bI.mk l1 ([(⟨(9:Int),mK,mK,(IntKind.i64.wrap ((l1.length:Int)-(1:Int))),s.Kinds,false,nD,[],[],[],[],(0:Int)⟩:af)]) s.Kinds (way==(3:Int)) cols)) bW J J aR (.head _) (ht J))<|c0<|ai bW J aj J (ht J) (ht J)<|bh 6 J<|au<|ak<|aL<|aL<|aL ?_;cases so h;exact dF J bW J J J
 ·skip
  refine aw<|zo J (dy 3 nq J J J)<|zo J (aA yK J J kX (.tail _ (.tail _ (.head _))) (ht J))<|au<|cE h J (fun h=>?_) (fun h=>?_)
  ·refine am<|zo J (dy 1 Hb J J J)<|ai bA J nM J (ht J) hI<|aJ<|bE<|aD ?_;exact bJ (K (bK.mk (⟨s.Nodes,(1:Int),way,cols⟩:bK).Nodes (2:Int) (⟨s.Nodes,(1:Int),way,cols⟩:bK).Way (⟨s.Nodes,(1:Int),way,cols⟩:bK).Cols) h) (bg J)
  ·refine bk<|bE<|aD ?_;exact bJ (K (⟨s.Nodes,(1:Int),way,cols⟩:bK) h) (bg J)

theorem BI(s:bI){R:bI}(h:eh s=some R):bo bl 42 [tD aW s] (tD aW R):=by
 refine bo.of Tryz.func42 J J J fun w0 S0=>aw<|zo J (jt J)<|bj (r:=aW) (x:=qX) bW (fun _=>jo _) J fun b=>au<|ac<|aw<|zo J (bD nq kX J J)<|zo J (bm yK J J)<|au<|cE h J (fun h=>?_) (fun h=>?_)
 ·refine aw<|zo J (bm bW J J)<|ai bW J aj J (ht J) (ht J)<|au<|ak<|M<|bH 2 J ?_;cases so h;exact dF J bW J J J
 ·refine dz<|aw<|zo J (bm bW J J)<|bz h fun r q_r h=>zo J (aC Jc (xQ _ _ _ q_r) ⟨(ht J),hI,jr,aT⟩)<|ai bW J aj J (ht J) (ht J)<|au<|ak<|bH 2 J ?_;cases so h;exact dF J bW J J J

theorem RM(l:(List Int))(n:Int){R:Int}(h:xw l n=some R):bo bl 190 [dI l,cb n] (cb R):=by
 refine bo.of Tryz.func190 J J J fun w0 S0=>aw<|zo J (dB)<|au<|ac<|aw<|zo J (dB)<|au<|ax<|br (k:=0) J fun hN=>bB ?_;refine aP (em (Z:=fun ls i=>(l.drop i=ls)∧ov n ls i=some R) (Of:=fun _ i=>[]) (Gf:=fun _ i=>[(0,dI l),(1,cb n),(5,cb (i:Int))]) (fun i h=>?_) (fun e tl ih i h=>?_) l 0 ⟨J,h⟩) (bg J)
 ·obtain⟨hx,h⟩:=h
  refine aB<|ac<|aw<|aE J<|aE J<|zo J (fW dc J)<|zo J (ft J J)<|au<|bP (ht J) (dU hx)<|bp ?_;refine ae (ae (aK ?_));refine aq<|aw<|zo rfl (dB)<|au<|ak ?_;cases so h;exact aF J J
 ·obtain⟨hx,h⟩:=h
  refine aB<|ac<|aw<|aE J<|aE J<|zo J (fW dc J)<|zo J (ft J J)<|au<|bO (ht J) (dN hx)<|dz<|ac<|ax<|aw<|aE J<|aE J<|zo J (iQ dc bA J J J (dO hx))<|zo J (bm bA J J)<|aE J<|zo J (cw (ht J) (ht J))<|aJ ?_;refine aq<|cE h rfl (fun h=>?_) (fun h=>?_)
  ·refine aw<|aE J<|bu J<|au<|ak ?_;refine ay (M (M (ay (M ?_))));cases so h;exact aF J J
  ·refine bk<|an<|aq<|am<|aE rfl<|zo rfl (nh (dm hx hN) rfl)<|bu rfl<|aJ ?_;exact be (aP (ih (i+1) ⟨dl hx,h⟩) (bg J))

theorem Db(of:(List Int))(l:(List Int)){R:(List Int)×Bool}(h:iX of l=some R):bo bl 120 [dI of,dI l] (tT [dI R.1,gq R.2]):=by
 refine bo.of Tryz.func120 J J J fun w0 S0=>aw<|zo J (aU (show aZ _ _ _ mJ from jr))<|zo J (ez)<|au<|aw<|cd false cx 3<|zo J (aU s6)<|au<|ac<|aw<|zo J (dB)<|au<|ax<|br (k:=0) J fun hN=>bB ?_;refine aP (lZ (Z:=fun ls i out l1 c=>(of.drop i=ls)∧nG of l ls out=some R) (Of:=fun _ i out l1 c=>[ga cx 3 l1 c out]) (Gf:=fun _ i out l1 c=>[(0,dI of),(1,dI l),(6,oP l1 c out),(7,cb (i:Int))]) (fun i out l1 c h=>?_) (fun e tl ih i out l1 c h=>?_) of 0 oq none 0 ⟨J,h⟩) (bg J)
 ·obtain⟨hx,h⟩:=h
  refine aB<|ac<|aw<|aE J<|aE J<|zo J (fW dc J)<|zo J (ft J J)<|au<|bP (ht J) (dU hx)<|bp ?_;refine ae (ae (aK ?_));refine aq<|aw<|aE rfl<|aE rfl<|zo rfl (fW dc rfl)<|zo rfl (d5 (ht rfl) hI)<|bu rfl<|bu rfl<|au<|ak<|gV<|cC 6 rfl<|cC 27 rfl<|cC 4 rfl<|ik 4 rfl<|aL ?_;cases so h;exact co J J J
 ·obtain⟨hx,h⟩:=h
  refine aB<|ac<|aw<|aE J<|aE J<|zo J (fW dc J)<|zo J (ft J J)<|au<|bO (ht J) (dN hx)<|dz<|ac<|ax<|aw<|aE J<|aE J<|aE J<|zo J (iQ dc bA J J J (dO hx))<|zo J (bm bA J J)<|bz h fun r q_r h=>zo J (aC W0 (RM _ _ q_r) ⟨(ht J),(ht J),aT⟩) ?_;refine bu J<|au<|ac<|aw<|aE J<|zo J (eO (ht J) hI)<|au<|cE h J (fun h=>?_) (fun h=>?_)
  ·refine aw<|zo J (aU (show aZ _ _ _ mJ from jr))<|zo J (ez)<|au<|ak ?_;refine M (ay (M (M (ay (M ?_)))));refine aL ?_;cases so h;exact co J J J
  ·refine dz<|am<|aE J<|aE J<|zo J (aN (r:=cx) (ys:=[r]) (xs:=[.tmp 24]) dc bA J J J J J ⟨(ht J),aT⟩)<|bz h fun cv q_out1 h=>cK bA J J J J dc J J (ht J) (ht J) q_out1 fun l2 c1=>bu J<|aJ<|an<|aq<|am<|aE rfl<|zo rfl (nh (dm hx hN) rfl)<|bu rfl<|aJ ?_;exact be (aP (ih (i+1) cv l2 c1 ⟨dl hx,h⟩) (bg J))

theorem RL(n:af)(by1:Int){R:af}(h:we n by1=some R):bo bl 191 [tD ah n,cb by1] (tD ah R):=by
 refine bo.of Tryz.func191 J J J fun w0 S0=>aw<|kO (ht J) J fun b=>bj (r:=ah) (x:=zk) cz (fun _=>iT _) J fun b1=>au ?_;refine dD (Z:=fun n1=>rG by1 n1=some R) (Of:=fun n1=>[bx ah 72 b n1,bx ah 72 b1 zk]) (Gf:=fun n1=>[(1,cb by1),(2,tV (aM b 0)),(4,tV (aM b1 0))]) (fun n1 h=>?_) (fun K=>?_)
 ·skip
  refine dD (Z:=fun n2=>rF n2=some R) (Of:=fun n2=>[bx ah 72 b n2,bx ah 72 b1 zk]) (Gf:=fun n2=>[(2,tV (aM b 0)),(4,tV (aM b1 0))]) (fun n2 h=>?_) (fun K1=>?_)
  ·skip
   refine aw<|zo J (aA cz J J aR (.head _) (ht J))<|bL<|ai cz J aj J (ht J) (ht J)<|bh 4 J<|au<|ak<|aL ?_;cases so h;exact dF J cz J J J
  ·skip
   refine aw<|zo J (dy 2 iy J J J)<|zo J (aA bA J J d9 (.head _) (ht J))<|zo J (cU (ht J) hI)<|au<|cE h J (fun h=>?_) (fun h=>?_)
   ·refine am<|zo J (dy 2 iy J J J)<|zo J (aA bA J J d9 (.head _) (ht J))<|aE J<|zo J (ei (ht J) (ht J))<|zo J (dy 2 iy J J J)<|ai bA J k7 J (ht J) (ht J)<|aJ ?_;exact bJ (K1 (af.mk n1.Op n1.A (IntKind.i64.wrap (n1.B+by1)) n1.Table n1.Kinds n1.Left n1.Cond n1.Keys n1.Aggs n1.Items n1.Order n1.Limit) h) (bg J)
   ·refine bk ?_;exact bJ (K1 n1 h) (bg J)
 ·skip
  refine aw<|zo J (dy 1 fC J J J)<|zo J (aA bA J J cY (.tail _ (.head _)) (ht J))<|zo J (cU (ht J) hI)<|au<|cE h J (fun h=>?_) (fun h=>?_)
  ·refine am<|zo J (dy 1 fC J J J)<|zo J (aA bA J J cY (.tail _ (.head _)) (ht J))<|aE J<|zo J (ei (ht J) (ht J))<|zo J (dy 1 fC J J J)<|bL<|ai bA J mf J (ht J) (ht J)<|aJ ?_;exact bJ (K (af.mk n.Op (IntKind.i64.wrap (n.A+by1)) n.B n.Table n.Kinds n.Left n.Cond n.Keys n.Aggs n.Items n.Order n.Limit) h) (bg J)
  ·refine bk<|bE ?_;exact bJ (K n h) (bg J)

theorem Da(n:af)(kinds:(List Int))(a1:bI)(b:bI){R:bI}(h:pX n kinds a1 b=some R):bo bl 122 [tD ah n,dI kinds,tD aW a1,tD aW b] (tD aW R):=by
 refine bo.of Tryz.func122 J J J fun w0 S0=>aw<|kO (ht J) J fun b1=>zo J (jt J)<|zo J (jt J)<|bj (r:=aW) (x:=qX) bW (fun _=>jo _) J fun b2=>au<|aw<|jT (r:=ah) (ys:=CB) (xs:=[]) om cz J J J J J trivial J fun l c=>zo J (bD mF jA J J)<|zo J (bm iB J J)<|bz h fun out q_out h=>cK cz J J J J om J J (ht J) (ht J) q_out fun l1 c1=>bu J<|au<|ac<|aw<|zo J (dB)<|aJ ?_;refine aq<|ax<|bB<|eV<|iJ<|iJ ?_;refine aP (tH (Z:=fun n1 cv l2 c2 i=>nN n kinds a1 b n1 cv i=some R) (Of:=fun cv l2 c2 i=>[ga ah 72 l2 c2 cv,bx ah 72 b1 n,bx aW 102 b2 qX]) (Gf:=fun cv l2 c2 i=>[(1,dI kinds),(4,tV (aM b1 0)),(6,bt aW a1),(7,bt aW b),(8,tV (aM b2 0)),(9,oP l2 c2 cv),(10,cb i)]) (fun cv l2 c2 i h=>nn h) (fun n1 ih cv l2 c2 i h=>?_) cZ out l1 c1 (0:Int) h) (bg J);refine aB<|ac<|aw<|aE J<|zo J (bD mF jA J J)<|zo J (bm iB J J)<|zo J (fW om J)<|zo J (ft J J)<|au<|cE h J (fun h=>?_) (fun h=>?_)
 ·refine dz<|ac<|ax<|bz h fun e q_e h=>bz h fun r q_r h=>?_
  refine iL 11 (ts:=[oP l2 c2 cv,bt xf b.Nodes,fc (ah) b.Nodes,cb i,bt ah e,tD ah e,bt xf a1.Nodes,fc (ah) a1.Nodes,jV a1.Nodes,tD ah r,fc (ah) ([r])]) mixed J J J
   ⟨ef 9 J J J (cG J),
   ⟨ef 7 J J J (bD mF jA J J),
   ⟨cT 23 1 J J J (bm iB J J),
   ⟨ef 10 J J J (cG J),
   ⟨dG 24 2 25 3 J J J J (iQ om cz J J J q_e),
   ⟨cT 26 4 J J J (bm cz J J),
   ⟨ef 6 J J J (bD mF jA J J),
   ⟨cT 28 6 J J J (bm iB J J),
   ⟨cT 29 7 J J J (fW om J),
   ⟨dG 27 5 30 8 J J J J (aC WZ (RL _ _ q_r) ⟨(ht J),(ht J),aT⟩),
   ⟨cT 31 9 J J J (aN (r:=ah) (ys:=[r]) (xs:=[.tmp 31]) om cz J J J J J ⟨(ht J),aT⟩),
   aT⟩⟩⟩⟩⟩⟩⟩⟩⟩⟩⟩ ?_
  refine bz h fun sT q_out2 h=>cK cz J J J J om J J (ht J) (ht J) q_out2 fun l3 c3=>bu J<|aJ<|an<|aq<|am<|aE rfl<|zo rfl (ei (ht rfl) hI)<|bu rfl<|aJ ?_;exact be (aP (ih sT l3 c3 (IntKind.i64.wrap (i+(1:Int))) h) (bg J))
 ·refine bp ?_;refine ae (ae (aK ?_));refine aq<|aw<|zo rfl (bD mF jA rfl rfl)<|zo rfl (bm iB rfl rfl)<|zo rfl (fW om rfl)<|zo rfl (dL (ht rfl) hI)<|zo rfl (dy 1 fC rfl rfl rfl)<|bL<|ai bA rfl mf rfl (ht rfl) (ht rfl)<|au<|aw<|aE rfl<|zo rfl (gQ om (.tail _ (.head _)) (ht rfl))<|zo rfl (dL (ht rfl) hI)<|zo rfl (dy 2 iy rfl rfl rfl)<|ai bA rfl k7 rfl (ht rfl) (ht rfl)<|au<|ac<|NU<|vO ?_;refine uv 9 J<|uv 39 J<|bz h fun l4 q_l4 h=>?_
  refine iK 9 [tc (bt zj b.Frags),tc (fc (aH) b.Frags),tc (tO ah l2 c2 cv),tc (tD ah (af.mk n.Op (IntKind.i64.wrap ((a1.Nodes.length:Int)-(1:Int))) (IntKind.i64.wrap ((cv.length:Int)-(1:Int))) n.Table n.Kinds n.Left n.Cond n.Keys n.Aggs n.Items n.Order n.Limit)),tc (fc (ah) ([(af.mk n.Op (IntKind.i64.wrap ((a1.Nodes.length:Int)-(1:Int))) (IntKind.i64.wrap ((cv.length:Int)-(1:Int))) n.Table n.Kinds n.Left n.Cond n.Keys n.Aggs n.Items n.Order n.Limit)])),([5],fun s=>tO ah ((s.getD 0 nz).h 0).1 ((s.getD 0 nz).h 0).2 l4),tc (dI kinds),tc (bt rB a1.One),tc (gq a1.One)] [false,false,false,false,false,true,false,false,false] [fun _=>[tip ah 72 l2 c2 cv,bx ah 72 b1 (af.mk n.Op (IntKind.i64.wrap ((a1.Nodes.length:Int)-(1:Int))) (IntKind.i64.wrap ((cv.length:Int)-(1:Int))) n.Table n.Kinds n.Left n.Cond n.Keys n.Aggs n.Items n.Order n.Limit),bx aW 102 b2 qX],fun sg=>[tip ah 72 ((sg 5).h 0).1 ((sg 5).h 0).2 l4,bx ah 72 b1 (af.mk n.Op (IntKind.i64.wrap ((a1.Nodes.length:Int)-(1:Int))) (IntKind.i64.wrap ((cv.length:Int)-(1:Int))) n.Table n.Kinds n.Left n.Cond n.Keys n.Aggs n.Items n.Order n.Limit),bx aW 102 b2 qX]] J mixed J J J J J
   ⟨⟨[⟨7,fun _=>bt aW b,none⟩],_,0,1,J,⟨(fun _=>J),aT⟩,J,J,J,J,J,fun _ sg _ _=>aa J (bD ic iG J J)⟩,
   ⟨⟨[⟨43,fun _=>bt zj b.Frags,some 0⟩],_,0,1,J,⟨(fun _=>J),aT⟩,J,J,J,J,J,fun _ sg _ _=>aa J (bm jh J J)⟩,
   ⟨⟨[⟨9,fun _=>tO ah l2 c2 cv,none⟩],_,0,0,J,⟨(fun _=>J),aT⟩,J,J,J,J,J,fun _ sg _ _=>aa J (cG J)⟩,
   ⟨⟨[⟨4,fun _=>tV (aM b1 0),none⟩],_,0,0,J,⟨(fun _=>J),aT⟩,J,J,J,J,J,tU (fun sg=>aa J (aA (x:=(af.mk n.Op (IntKind.i64.wrap ((a1.Nodes.length:Int)-(1:Int))) (IntKind.i64.wrap ((cv.length:Int)-(1:Int))) n.Table n.Kinds n.Left n.Cond n.Keys n.Aggs n.Items n.Order n.Limit)) cz J J aR (.tail _ (.head _)) (ht J)))⟩,
   ⟨⟨[⟨46,fun _=>tD ah (af.mk n.Op (IntKind.i64.wrap ((a1.Nodes.length:Int)-(1:Int))) (IntKind.i64.wrap ((cv.length:Int)-(1:Int))) n.Table n.Kinds n.Left n.Cond n.Keys n.Aggs n.Items n.Order n.Limit),some 3⟩],_,0,0,J,⟨(fun _=>J),aT⟩,J,J,J,J,J,fun _ sg _ _=>aa J (aN (r:=ah) (ys:=[(af.mk n.Op (IntKind.i64.wrap ((a1.Nodes.length:Int)-(1:Int))) (IntKind.i64.wrap ((cv.length:Int)-(1:Int))) n.Table n.Kinds n.Left n.Cond n.Keys n.Aggs n.Items n.Order n.Limit)]) (xs:=[.tmp 46]) om cz J J J J J ⟨(ht J),aT⟩)⟩,
   ⟨⟨[⟨45,fun _=>tO ah l2 c2 cv,some 2⟩,⟨47,fun _=>tD xf ([(af.mk n.Op (IntKind.i64.wrap ((a1.Nodes.length:Int)-(1:Int))) (IntKind.i64.wrap ((cv.length:Int)-(1:Int))) n.Table n.Kinds n.Left n.Cond n.Keys n.Aggs n.Items n.Order n.Limit)]),some 4⟩],_,J,⟨(fun _=>J),(fun _=>J),aT⟩,J,J,J,fun sg=>bN J (jR cz J J J J om J (ht J) (ht J) q_l4)⟩,
   ⟨⟨[⟨1,fun _=>tD oS kinds,none⟩],_,0,1,J,⟨(fun _=>J),aT⟩,J,J,J,J,J,fun _ sg _ _=>aa J (cG J)⟩,
   ⟨⟨[⟨6,fun _=>bt aW a1,none⟩],_,0,1,J,⟨(fun _=>J),aT⟩,J,J,J,J,J,fun _ sg _ _=>aa J (bD nq kX J J)⟩,
   ⟨⟨[⟨50,fun _=>bt rB a1.One,some 7⟩],_,0,1,J,⟨(fun _=>J),aT⟩,J,J,J,J,J,fun _ sg _ _=>aa J (bm yK J J)⟩,
   aT⟩⟩⟩⟩⟩⟩⟩⟩⟩ (fun sg=>?_)
  refine(show RG _ _ _ _ [tip ah 72 ((sg 5).h 0).1 ((sg 5).h 0).2 l4,bx ah 72 b1 (af.mk n.Op (IntKind.i64.wrap ((a1.Nodes.length:Int)-(1:Int))) (IntKind.i64.wrap ((cv.length:Int)-(1:Int))) n.Table n.Kinds n.Left n.Cond n.Keys n.Aggs n.Items n.Order n.Limit),bx aW 102 b2 qX] _ from ?_);refine zo J (cm (y:=(⟨b.Frags,l4,kinds,a1.One,[]⟩:bI)) bW Lx jo (⟨_,_,_,_,_,J,lA,J,(ht J),⟨_,_,_,_,_,J,yi,J,(kT (ht J)),⟨_,_,_,_,_,J,Bp,J,(ht J),⟨_,_,_,_,_,J,Bo,J,(ht J),J⟩⟩⟩⟩))<|c0<|ai bW J aj J (ht J) (ht J)<|bh 8 J<|au<|ak<|aL<|aL ?_;cases so h;exact dF J bW J J J

theorem LA(e:bf)(place:Int){R:bf}(h:t7 e place=some R):bo bl 253 [tD bn e,cb place] (tD bn R):=by
 refine bo.of Tryz.func253 J J J fun w0 S0=>aw<|zo J (jt J)<|bj (r:=bn) (x:=nD) eN (fun _=>rA _) J fun b=>au<|aw<|aE J<|zo J (ei (ht J) hI)<|zo J (bm eN J J)<|aE J<|bz h fun r q_r h=>zo J (aC LU (LB _ _ q_r) ⟨(ht J),(ht J),aT⟩)<|zo J (dL (ht J) (ht J))<|bu J<|au<|aw<|cd true bc 130<|bj (r:=jv) (x:=j6 nD (aV none 0 (N6.length))) eN Bh J fun b1=>aJ ?_;refine aq<|ac<|aw<|zo rfl (bD de bZ rfl rfl)<|zo rfl (bm ir rfl rfl)<|aE rfl<|aE rfl<|zo rfl (ei (ht rfl) hI)<|bz h fun y q_y h=>zo J (FK oo cR J (ht J) (ht J) (ht J) q_y)<|zo J (fW oo J)<|zo J (bQ hI)<|au<|ax<|br (k:=20) J fun hN=>bB<|eV<|eV<|iJ ?_;refine aP (lZ (Z:=fun ls i out l c=>(y.drop i=ls)∧im place r ls out=some R) (Of:=fun _ i out l c=>[bx bn 67 b nD,bx jv 67 b1 (j6 out (aV l c out.Nodes.length)),tip bc 130 l c out.Nodes]) (Gf:=fun _ i out l c=>[(4,tV (aM b 0)),(5,cb (IntKind.i64.wrap ((IntKind.i64.wrap (place+(1:Int)))-r))),(6,tV (aM b1 0)),(20,fc (bc) y),(21,jV y),(22,cb (i:Int))]) (fun i out l c h=>?_) (fun e1 tl ih i out l c h=>?_) y 0 ({nD with Nodes:=N6}:bf) none 0 ⟨J,h⟩) (bg J)
 ·obtain⟨hx,h⟩:=h
  refine aB<|aw<|zo J (ft J J)<|au<|ac<|bP (ht J) (dU hx)<|bp ?_;refine ae (ae (aK ?_));refine aq<|aw<|c0<|zo rfl (pZ (q:=bn) (y:=out) eN J J J J (.tail _ (.tail _ (.head _))) (fun _ _ _ ho h=>xU (uP ho (.head _)) h) (ht J))<|bL<|ai eN J aj J (ht J) (ht J)<|bh 4 J<|au<|ak<|aL<|aL ?_;cases so h;exact dF J eN J J J
 ·obtain⟨hx,h⟩:=h
  refine aB<|aw<|zo J (ft J J)<|au<|ac<|bO (ht J) (dN hx)<|dz<|ac<|ax<|aw<|zo J (iQ oo cR J J J (dO hx))<|zo J (bm cR J J)<|bj (r:=bc) (x:=Dl) cR (fun _=>kZ _) J fun b2=>ai cR J aj J (ht J) (ht J)<|au ?_;refine dD (Z:=fun n=>pA place r (im place r tl) out n=some R) (Of:=fun n=>[bx bn 67 b nD,bx bc 130 b2 n,bx jv 67 b1 (j6 out (aV l c out.Nodes.length)),tip bc 130 l c out.Nodes]) (Gf:=fun n=>[(4,tV (aM b 0)),(5,cb (IntKind.i64.wrap ((IntKind.i64.wrap (place+(1:Int)))-r))),(6,tV (aM b1 0)),(8,tV (aM b2 0)),(20,fc (bc) y),(21,jV y),(22,cb (i:Int))]) (fun n h=>?_) (fun K=>?_)
  ·skip
   refine dD (Z:=fun n1=>pz (im place r tl) out n1=some R) (Of:=fun n1=>[bx bn 67 b nD,bx bc 130 b2 n1,bx jv 67 b1 (j6 out (aV l c out.Nodes.length)),tip bc 130 l c out.Nodes]) (Gf:=fun n1=>[(4,tV (aM b 0)),(5,cb (IntKind.i64.wrap ((IntKind.i64.wrap (place+(1:Int)))-r))),(6,tV (aM b1 0)),(8,tV (aM b2 0)),(20,fc (bc) y),(21,jV y),(22,cb (i:Int))]) (fun n1 h=>?_) (fun K1=>?_)
   ·skip
    refine am<|zo J (dy 0 de J J J)<|zo J (o7 ir xM (.tail _ (.tail _ (.head _))) (.tail _ (.tail _ (.tail _ (.head _)))) J (ht J))<|zo J (aA cR J J aR (.tail _ (.head _)) (ht J))<|zo J (aN (r:=bc) (ys:=[n1]) (xs:=[.tmp 44]) oo cR J J J J J ⟨(ht J),aT⟩)<|dC<|bz h fun l1 q_l1 h=>my cR J J J J oo J J (ht J) (ht J) q_l1 fun l2 c1=>zo J (dy 0 de J J J)<|dC<|kw ir J (yM _ _ _) J (ht J) (N1 (Bl (ht J)))<|aJ<|an<|aq<|am<|zo rfl (nh (dm hx hN) rfl)<|aE rfl<|aJ<|bF<|aL<|bE<|bE<|aD ?_;exact be (aP (ih (i+1) ({out with Nodes:=l1}:bf) l2 c1 ⟨dl hx,h⟩) (bg J))
   ·skip
    refine aw<|zo J (dy 2 n9 J J J)<|zo J (aA bA J J jC (.tail _ (.head _)) (ht J))<|zo J (cU (ht J) hI)<|au<|cE h J (fun h=>?_) (fun h=>?_)
    ·refine am<|zo J (dy 2 n9 J J J)<|zo J (aA bA J J jC (.tail _ (.head _)) (ht J))<|aE J<|zo J (dL (ht J) (ht J))<|zo J (dy 2 n9 J J J)<|bL<|ai bA J DC J (ht J) (ht J)<|aJ<|bF<|bF<|aD<|bF ?_;exact bJ (K1 (bq.mk n.Tag n.L (IntKind.i64.wrap (n.R-(IntKind.i64.wrap ((IntKind.i64.wrap (place+(1:Int)))-r)))) n.Col n.Value) h) (bg J)
    ·refine bk ?_;exact bJ (K1 n h) (bg J)
  ·skip
   refine aw<|zo J (dy 1 pe J J J)<|zo J (aA bA J J ko (.head _) (ht J))<|zo J (cU (ht J) hI)<|au<|cE h J (fun h=>?_) (fun h=>?_)
   ·refine am<|zo J (dy 1 pe J J J)<|zo J (aA bA J J ko (.head _) (ht J))<|aE J<|zo J (dL (ht J) (ht J))<|zo J (dy 1 pe J J J)<|ai bA J DD J (ht J) (ht J)<|aJ<|bF<|bF<|aD<|bF ?_;exact bJ (K (bq.mk e1.Tag (IntKind.i64.wrap (e1.L-(IntKind.i64.wrap ((IntKind.i64.wrap (place+(1:Int)))-r)))) e1.R e1.Col e1.Value) h) (bg J)
   ·refine bk<|bF<|bF<|aD<|bF ?_;exact bJ (K e1 h) (bg J)

end Go.Proofs.YtnmjbolollcokaaGreatDoor

