/- dr of this claim: P6. -/
import Derived.Test.YtnmjbolollcokaaGreatDoorRdT
import Derived.Test.YtnmjbolollcokaaGreatDoorRdP5
set_option linter.all false
namespace Go.Proofs.YtnmjbolollcokaaGreatDoor
open Go
set_option maxRecDepth 100000

theorem UE(l:bR)(place:Int){R:bR×Int}(h:wo l place=some R):bo bl 34 [tD ck l,cb place] (tT [tD ck R.1,cb R.2]):=by
 refine bo.of Tryz.func34 J J J fun w0 S0=>aw<|zo J (jt J)<|bj (r:=ck) (x:=HO) lx (fun _=>pp _) J fun b=>zo J (dB)<|au<|aw<|zo J (bm lx J J)<|bz h fun r q_r h=>zo J (aC Vg (Ky _ q_r) ⟨(ht J),aT⟩)<|aE J<|zo J (kG J J)<|zo J (kG J J)<|zo J (kG J J)<|bu J<|bu J<|bu J<|au<|ac<|ax ?_;refine aw<|aE J<|zo J (dh (ht J))<|bu J<|au<|cE h J (fun h=>?_) (fun h=>?_)
 ·refine aw<|zo J (cm (y:=HO) lx Pg pp (J))<|ai lx J aj J (ht J) (ht J)<|zo J (dB)<|au<|ak ?_;refine ay (M ?_);refine bH 4 J ?_;cases so h;exact kP J J ⟨fh lx J J J,dA J,aT⟩
 ·refine aw<|aE J<|zo J (eO (ht J) hI)<|aE J<|ci J J (fun hg=>cG J)<|ci J J (fun hg=>bD jn dM J J)<|ci J J (fun hg=>aI iB J J (aS J hg))<|ci J J (fun hg=>bU om (aS J hg))<|ci J J (fun hg=>cU (aS J hg) (aS J hg))<|zo J (nW J J)<|bu J<|au<|cE h J (fun h=>?_) (fun h=>?_)
  ·refine aw<|zo J (cm (y:=HO) lx Pg pp (J))<|ai lx J aj J (ht J) (ht J)<|zo J (dB)<|au<|ak ?_;refine ay (M ?_);refine bH 4 J ?_;cases so h;exact kP J J ⟨fh lx J J J,dA J,aT⟩
  ·refine bk<|an<|aq<|aw<|cd true ah 72<|bj (r:=pV) (x:=rm HO (aV none 0 (CB.length))) lx JF J fun b1=>au<|ac<|aw<|aE J<|zo J (GT (ht J))<|zo J (bD uZ AN J J)<|zo J (bm cD J J)<|aE J<|bz h fun e q_e h=>zo J (iQ dc bA J J J q_e)<|zo J (bm bA J J)<|bu J<|au<|ax ?_;refine bB<|eV<|eV<|iJ ?_;refine aP (tH (Z:=fun n i out l1 c=>nT l place e n i out=some R) (Of:=fun i out l1 c=>[bx ck 24 b HO,bx pV 24 b1 (rm out (aV l1 c out.Nodes.length)),tip ah 72 l1 c out.Nodes]) (Gf:=fun i out l1 c=>[(1,cb place),(2,bt ck l),(4,tV (aM b 0)),(6,bt bv r.1),(9,tV (aM b1 0)),(10,cb i)]) (fun i out l1 c h=>nn h) (fun n ih i out l1 c h=>?_) cZ e ({HO with Nodes:=CB}:bR) none 0 h) (bg J);refine aB<|ac<|aw<|aE J<|aE J<|zo J (g9 (ht J) (ht J))<|au<|cE h J (fun h=>?_) (fun h=>?_)
   ·refine dz<|ac<|ax<|bz h fun e1 q_e1 h=>bz h fun r1 q_r1 h=>?_
    refine iL 17 (ts:=[tV (aM b1 0),tO ah l1 c out.Nodes,bt xf l.Nodes,fc (ah) l.Nodes,cb i,bt ah e1,tD ah e1,bt bv r.1,bt bv r.1,bt gG r.1.first,dI r.1.first,cb place,bt cx e,cb e,cb (IntKind.i64.wrap (0-e)),tD ah r1,fc (ah) ([r1])]) mixed J J J
     ⟨ef 9 J J J (dy 0 jn J J J),
     ⟨cT 44 0 J J J (o7 iB G6 (.tail _ (.head _)) (.tail _ (.tail _ (.head _))) J (ht J)),
     ⟨ef 2 J J J (bD jn dM J J),
     ⟨cT 46 2 J J J (bm iB J J),
     ⟨ef 10 J J J (cG J),
     ⟨dG 47 3 48 4 J J J J (iQ om cz J J J q_e1),
     ⟨cT 49 5 J J J (bm cz J J),
     ⟨ef 6 J J J (cG J),
     ⟨cT 51 7 J J J (GT (ht J)),
     ⟨cT 52 8 J J J (bD uZ AN J J),
     ⟨cT 53 9 J J J (bm cD J J),
     ⟨ef 1 J J J (cG J),
     ⟨dG 54 10 55 11 J J J J (iQ dc bA J J J q_e),
     ⟨cT 56 12 J J J (bm bA J J),
     ⟨cT 57 13 J J J (TT (ht J)),
     ⟨dG 50 6 58 14 J J J J (aC YG (Un _ _ q_r1) ⟨(ht J),(ht J),aT⟩),
     ⟨cT 59 15 J J J (aN (r:=ah) (ys:=[r1]) (xs:=[.tmp 59]) om cz J J J J J ⟨(ht J),aT⟩),
     aT⟩⟩⟩⟩⟩⟩⟩⟩⟩⟩⟩⟩⟩⟩⟩⟩⟩ ?_
    refine c0<|bz h fun l2 q_l2 h=>my cz J J J J om J J (ht J) (ht J) q_l2 fun l3 c1=>zo J (dy 0 jn J J J)<|c0<|kw iB J (xl _ _ _) J (ht J) (N1 (Bl (ht J)))<|aJ<|an<|aq<|am<|aE rfl<|zo rfl (ei (ht rfl) hI)<|bu rfl<|aJ<|bE<|bE<|aD ?_;exact be (aP (ih (IntKind.i64.wrap (i+(1:Int))) ({out with Nodes:=l2}:bR) l3 c1 h) (bg J))
   ·refine bp ?_;refine ae (ae (aK ?_));refine aq<|aw<|c0<|zo rfl (pZ (q:=ck) (y:=out) lx J J J J (.tail _ (.tail _ (.head _))) (fun _ _ _ ho h=>CQ (uP ho (.head _)) h) (ht J))<|bL<|ai lx J aj J (ht J) (ht J)<|zo J (dB)<|au<|ak<|bH 4 J<|aL<|aL ?_;cases so h;exact kP J J ⟨fh lx J J J,dA J,aT⟩

theorem Cm(b:Nat)(ix:OI)(p:aO)(s:ba)(way:Int)(cols:(List Int)){R:ba×aO}(h:eg p s way cols=some R):d2 bl 65 [tV (aM b 0),tD ap s,cb way,dI cols] (ig b p ix) (fun _:OI=>tD ap R.1) (fun j=>ig b R.2 j):=by
 refine d2.of Tryz.func65 J J J fun w0 S0=>?_;refine(show CG _ _ _ [bx (rH bb [(0,aV (ix.h 0).1 (ix.h 0).2 p.Plan.Frags.length),(3,aV (ix.h 1).1 (ix.h 1).2 p.kinds.length)]) 91 b p,tip aH 74 (ix.h 0).1 (ix.h 0).2 p.Plan.Frags,tip gG 42 (ix.h 1).1 (ix.h 1).2 p.kinds] _ from ?_);refine aw<|zo J (jt J)<|bj (r:=ap) (x:=ky) cg (fun _=>gi _) J fun b1=>au<|ac<|bz h fun r q_r h=>bz h fun l q_l h=>?_
 refine iK 16 [tc (tV (aM b 0)),tc (tV (aM b 0)),tc (tV (aM b 0)),tc (tV (aM b 0)),tc (tV (aM b 0)),tc (tO aH (ix.h 0).1 (ix.h 0).2 p.Plan.Frags),tc (bt xf s.nodes),tc (fc (ah) s.nodes),tc (bt cx s.at_),tc (cb s.at_),tc (cb way),tc (dI cols),tc (dI r),tc (tD aH (⟨s.nodes,s.at_,way,r⟩:bK)),tc (fc (aH) ([(⟨s.nodes,s.at_,way,r⟩:bK)])),([15],fun s=>tO aH ((s.getD 0 nz).h 0).1 ((s.getD 0 nz).h 0).2 l)] [false,false,false,false,false,false,false,false,false,false,false,false,false,false,false,true] [fun _=>[bx ap 95 b1 ky,bx (rH bb [(0,aV (ix.h 0).1 (ix.h 0).2 p.Plan.Frags.length),(3,aV (ix.h 1).1 (ix.h 1).2 p.kinds.length)]) 91 b p,tip aH 74 (ix.h 0).1 (ix.h 0).2 p.Plan.Frags,tip gG 42 (ix.h 1).1 (ix.h 1).2 p.kinds],fun sg=>[tip aH 74 ((sg 15).h 0).1 ((sg 15).h 0).2 l,bx ap 95 b1 ky,bx (rH bb [(0,aV (ix.h 0).1 (ix.h 0).2 p.Plan.Frags.length),(3,aV (ix.h 1).1 (ix.h 1).2 p.kinds.length)]) 91 b p,tip gG 42 (ix.h 1).1 (ix.h 1).2 p.kinds]] J mixed J J J J J
  ⟨⟨[⟨0,fun _=>tV (aM b 0),none⟩],_,0,1,J,⟨(fun _=>J),aT⟩,J,J,J,J,J,fun _ sg _ _=>aa J (cG J)⟩,
  ⟨⟨[⟨0,fun _=>tV (aM b 0),none⟩],_,0,0,J,⟨(fun _=>J),aT⟩,J,J,J,J,J,fun _ sg _ _=>aa J (cG J)⟩,
  ⟨⟨[⟨12,fun _=>tV (aM b 0),some 1⟩],_,0,0,J,⟨(fun _=>J),aT⟩,J,J,J,J,J,fun _ sg _ _=>aa J (eJ (ht J))⟩,
  ⟨⟨[⟨13,fun _=>tV (aM b 0),some 2⟩],_,0,0,J,⟨(fun _=>J),aT⟩,J,J,J,J,J,fun _ sg _ _=>aa J (dy 0 xP J J J)⟩,
  ⟨⟨[⟨14,fun _=>tV (aM b 0),some 3⟩],_,0,0,J,⟨(fun _=>J),aT⟩,J,J,J,J,J,fun _ sg _ _=>aa J (dy 0 iN J J J)⟩,
  ⟨⟨[⟨15,fun _=>tV (aM b 0),some 4⟩],_,0,0,J,⟨(fun _=>J),aT⟩,J,J,J,J,J,tU (fun sg=>aa J (eY jh J (.tail _ (.head _)) (.tail _ (.tail _ (.head _))) (ht J)))⟩,
  ⟨⟨[⟨5,fun _=>bt ap s,none⟩],_,0,0,J,⟨(fun _=>J),aT⟩,J,J,J,J,J,fun _ sg _ _=>aa J (bD vn BF J J)⟩,
  ⟨⟨[⟨17,fun _=>bt xf s.nodes,some 6⟩],_,0,0,J,⟨(fun _=>J),aT⟩,J,J,J,J,J,fun _ sg _ _=>aa J (bm iB J J)⟩,
  ⟨⟨[⟨5,fun _=>bt ap s,none⟩],_,0,0,J,⟨(fun _=>J),aT⟩,J,J,J,J,J,fun _ sg _ _=>aa J (bD ul mV J J)⟩,
  ⟨⟨[⟨19,fun _=>bt cx s.at_,some 8⟩],_,0,0,J,⟨(fun _=>J),aT⟩,J,J,J,J,J,fun _ sg _ _=>aa J (bm bA J J)⟩,
  ⟨⟨[⟨2,fun _=>tD cx way,none⟩],_,0,0,J,⟨(fun _=>J),aT⟩,J,J,J,J,J,fun _ sg _ _=>aa J (cG J)⟩,
  ⟨⟨[⟨3,fun _=>tD oS cols,none⟩],_,0,0,J,⟨(fun _=>J),aT⟩,J,J,J,J,J,fun _ sg _ _=>aa J (cG J)⟩,
  ⟨⟨[⟨22,fun _=>tD oS cols,some 11⟩],_,0,0,J,⟨(fun _=>J),aT⟩,J,J,J,J,J,fun _ sg _ _=>aa J (aC Je (Hf _ q_r) ⟨(ht J),aT⟩)⟩,
  ⟨⟨[⟨18,fun _=>tD xf s.nodes,some 7⟩,⟨20,fun _=>tD cx s.at_,some 9⟩,⟨21,fun _=>tD cx way,some 10⟩,⟨23,fun _=>tD oS r,some 12⟩],_,0,0,J,⟨(fun _=>J),(fun _=>J),(fun _=>J),(fun _=>J),aT⟩,J,J,J,J,J,fun _ sg _ _=>aa J (cm (y:=(⟨s.nodes,s.at_,way,r⟩:bK)) gk G3 mC (⟨_,_,_,_,_,J,oX,J,(ht J),⟨_,_,_,_,_,J,nM,J,(ht J),⟨_,_,_,_,_,J,oW,J,(ht J),⟨_,_,_,_,_,J,Fx,J,(ht J),J⟩⟩⟩⟩))⟩,
  ⟨⟨[⟨24,fun _=>tD aH (⟨s.nodes,s.at_,way,r⟩:bK),some 13⟩],_,0,0,J,⟨(fun _=>J),aT⟩,J,J,J,J,J,fun _ sg _ _=>aa J (aN (r:=aH) (ys:=[(⟨s.nodes,s.at_,way,r⟩:bK)]) (xs:=[.tmp 24]) kx gk J J J J J ⟨(ht J),aT⟩)⟩,
  ⟨⟨[⟨16,fun _=>tO aH (ix.h 0).1 (ix.h 0).2 p.Plan.Frags,some 5⟩,⟨25,fun _=>tD zj ([(⟨s.nodes,s.at_,way,r⟩:bK)]),some 14⟩],_,J,⟨(fun _=>J),(fun _=>J),aT⟩,J,J,J,fun sg=>bN J (EffOK.fr2 (jR gk J J J J kx J (ht J) (ht J) q_l))⟩,
  aT⟩⟩⟩⟩⟩⟩⟩⟩⟩⟩⟩⟩⟩⟩⟩⟩ (fun sg=>?_)
 refine(show RG _ _ _ _ [tip aH 74 ((sg 15).h 0).1 ((sg 15).h 0).2 l,bx ap 95 b1 ky,bx (rH bb [(0,aV (ix.h 0).1 (ix.h 0).2 p.Plan.Frags.length),(3,aV (ix.h 1).1 (ix.h 1).2 p.kinds.length)]) 91 b p,tip gG 42 (ix.h 1).1 (ix.h 1).2 p.kinds] _ from ?_);refine zo J (eJ (ht J))<|zo J (dy 0 xP J J J)<|zo J (dy 0 iN J J J)<|u7 (EffOK.fr2 (um (hs' :=[(0,aV ((sg 15).h 0).1 ((sg 15).h 0).2 l.length),(3,aV (ix.h 1).1 (ix.h 1).2 p.kinds.length)]) (u:=aV ((sg 15).h 0).1 ((sg 15).h 0).2 l.length) jh J J (yg wt Al yj) J ⟨.inl ⟨J,J,J⟩,.inr ⟨J,J⟩,aT⟩ (ht J) (kT (ht J)) (Bl (ht J)))) fun i=>?_;refine(show RG _ _ _ _ [bx (rH bb [(0,aV ((sg 15).h 0).1 ((sg 15).h 0).2 l.length),(3,aV (ix.h 1).1 (ix.h 1).2 p.kinds.length)]) 91 b ({p with Plan:=({p.Plan with Frags:=l}:dp)}:aO),tip aH 74 ((sg 15).h 0).1 ((sg 15).h 0).2 l,bx ap 95 b1 ky,tip gG 42 (ix.h 1).1 (ix.h 1).2 p.kinds] _ from ?_);refine au<|ac<|bz h fun r1 q_r1 h=>?_
 refine iK 12 [tc (tV (aM b 0)),tc (tV (aM b 0)),tc (tV (aM b 0)),tc (tV (aM b 0)),tc (tO aH ((sg 15).h 0).1 ((sg 15).h 0).2 l),tc (jV l),tc (cb (IntKind.i64.wrap ((l.length:Int)-(1:Int)))),tc (bt gG s.kinds),tc (dI s.kinds),tc (dI r1),tc (tD ah (⟨(9:Int),mK,mK,(IntKind.i64.wrap ((l.length:Int)-(1:Int))),r1,false,nD,[],[],[],[],(0:Int)⟩:af)),([11],fun s=>tV (aM ((s.getD 0 nz).h 0).2 0))] [false,false,false,false,false,false,false,false,false,false,false,true] [fun _=>[bx (rH bb [(0,aV ((sg 15).h 0).1 ((sg 15).h 0).2 l.length),(3,aV (ix.h 1).1 (ix.h 1).2 p.kinds.length)]) 91 b ({p with Plan:=({p.Plan with Frags:=l}:dp)}:aO),tip aH 74 ((sg 15).h 0).1 ((sg 15).h 0).2 l,bx ap 95 b1 ky,tip gG 42 (ix.h 1).1 (ix.h 1).2 p.kinds],fun sg1=>[bx ah 72 ((sg1 11).h 0).2 zk,bx (rH bb [(0,aV ((sg 15).h 0).1 ((sg 15).h 0).2 l.length),(3,aV (ix.h 1).1 (ix.h 1).2 p.kinds.length)]) 91 b ({p with Plan:=({p.Plan with Frags:=l}:dp)}:aO),tip aH 74 ((sg 15).h 0).1 ((sg 15).h 0).2 l,bx ap 95 b1 ky,tip gG 42 (ix.h 1).1 (ix.h 1).2 p.kinds]] J mixed J J J J J
  ⟨⟨[⟨0,fun _=>tV (aM b 0),none⟩],_,0,1,J,⟨(fun _=>J),aT⟩,J,J,J,J,J,fun _ sg1 _ _=>aa J (cG J)⟩,
  ⟨⟨[⟨30,fun _=>tV (aM b 0),some 0⟩],_,0,1,J,⟨(fun _=>J),aT⟩,J,J,J,J,J,fun _ sg1 _ _=>aa J (eJ (ht J))⟩,
  ⟨⟨[⟨31,fun _=>tV (aM b 0),some 1⟩],_,0,1,J,⟨(fun _=>J),aT⟩,J,J,J,J,J,fun _ sg1 _ _=>aa J (dy 0 xP J J J)⟩,
  ⟨⟨[⟨32,fun _=>tV (aM b 0),some 2⟩],_,0,1,J,⟨(fun _=>J),aT⟩,J,J,J,J,J,fun _ sg1 _ _=>aa J (dy 0 iN J J J)⟩,
  ⟨⟨[⟨33,fun _=>tV (aM b 0),some 3⟩],_,0,1,J,⟨(fun _=>J),aT⟩,J,J,J,J,J,vV (fun sg1=>aa J (eY jh J (.head _) (.tail _ (.head _)) (ht J))) (tU (fun sg1=>aa J (eY jh J (.tail _ (.head _)) (.tail _ (.tail _ (.head _))) (ht J))))⟩,
  ⟨⟨[⟨34,fun _=>tO aH ((sg 15).h 0).1 ((sg 15).h 0).2 l,some 4⟩],_,0,1,J,⟨(fun _=>J),aT⟩,J,J,J,J,J,fun _ sg1 _ _=>aa J (bU kx (kT (ht J)))⟩,
  ⟨⟨[⟨35,fun _=>tD cx (l.length:Int),some 5⟩],_,0,1,J,⟨(fun _=>J),aT⟩,J,J,J,J,J,fun _ sg1 _ _=>aa J (dL (ht J) hI)⟩,
  ⟨⟨[⟨5,fun _=>bt ap s,none⟩],_,0,1,J,⟨(fun _=>J),aT⟩,J,J,J,J,J,fun _ sg1 _ _=>aa J (bD Kt BE J J)⟩,
  ⟨⟨[⟨37,fun _=>bt oS s.kinds,some 7⟩],_,0,1,J,⟨(fun _=>J),aT⟩,J,J,J,J,J,fun _ sg1 _ _=>aa J (bm cD J J)⟩,
  ⟨⟨[⟨38,fun _=>tD oS s.kinds,some 8⟩],_,0,1,J,⟨(fun _=>J),aT⟩,J,J,J,J,J,fun _ sg1 _ _=>aa J (aC Je (Hf _ q_r1) ⟨(ht J),aT⟩)⟩,
  ⟨⟨[⟨36,fun _=>tD cx (IntKind.i64.wrap ((l.length:Int)-(1:Int))),some 6⟩,⟨39,fun _=>tD oS r1,some 9⟩],_,0,1,J,⟨(fun _=>J),(fun _=>J),aT⟩,J,J,J,J,J,fun _ sg1 _ _=>aa J (cm (y:=(⟨(9:Int),mK,mK,(IntKind.i64.wrap ((l.length:Int)-(1:Int))),r1,false,nD,[],[],[],[],(0:Int)⟩:af)) cz Nm iT (⟨_,_,_,_,_,J,ra,J,hI,⟨_,_,_,_,_,J,mf,J,hI,⟨_,_,_,_,_,J,k7,J,hI,⟨_,_,_,_,_,J,v7,J,(ht J),⟨_,_,_,_,_,J,tW,J,(ht J),J⟩⟩⟩⟩⟩))⟩,
  ⟨⟨[],_,J,aT,J,J,J,fun sg1=>bN J (ev (r:=ah) (x:=zk) cz (fun _=>iT _))⟩,
  aT⟩⟩⟩⟩⟩⟩⟩⟩⟩⟩⟩⟩ (fun sg1=>?_)
 refine(show RG _ _ _ _ [bx ah 72 ((sg1 11).h 0).2 zk,bx (rH bb [(0,aV ((sg 15).h 0).1 ((sg 15).h 0).2 l.length),(3,aV (ix.h 1).1 (ix.h 1).2 p.kinds.length)]) 91 b ({p with Plan:=({p.Plan with Frags:=l}:dp)}:aO),tip aH 74 ((sg 15).h 0).1 ((sg 15).h 0).2 l,bx ap 95 b1 ky,tip gG 42 (ix.h 1).1 (ix.h 1).2 p.kinds] _ from ?_);refine ai cz J aj J (ht J) (ht J)<|bh 9 J<|au<|aw<|zo J (dB)<|au ?_;refine dD (Z:=fun at1=>lP p s cols l r1 at1=some R) (Of:=fun at1=>[bx ap 95 b1 ky,bx (rH bb [(0,aV ((sg 15).h 0).1 ((sg 15).h 0).2 l.length),(3,aV (ix.h 1).1 (ix.h 1).2 p.kinds.length)]) 91 b ({p with Plan:=({p.Plan with Frags:=l}:dp)}:aO),tip aH 74 ((sg 15).h 0).1 ((sg 15).h 0).2 l,tip gG 42 (ix.h 1).1 (ix.h 1).2 p.kinds]) (Gf:=fun at1=>[(3,dI cols),(5,bt ap s),(8,tV (aM b1 0)),(9,bt ah (⟨(9:Int),mK,mK,(IntKind.i64.wrap ((l.length:Int)-(1:Int))),r1,false,nD,[],[],[],[],(0:Int)⟩:af)),(10,cb at1)]) (fun at1 h=>?_) (fun K=>?_)
 ·skip
  refine aw<|zo J (bm cz J J)<|zo J (aN (r:=ah) (ys:=[(⟨(9:Int),mK,mK,(IntKind.i64.wrap ((l.length:Int)-(1:Int))),r1,false,nD,[],[],[],[],(0:Int)⟩:af)]) (xs:=[.tmp 43]) om cz J J J J J ⟨(ht J),aT⟩)<|zo J (bD Kt BE J J)<|zo J (bm cD J J)<|aE J<|aE J<|zo J (cm (y:=(⟨[(⟨(9:Int),mK,mK,(IntKind.i64.wrap ((l.length:Int)-(1:Int))),r1,false,nD,[],[],[],[],(0:Int)⟩:af)],s.kinds,at1,cols⟩:ba)) cg T7 gi (⟨_,_,_,_,_,J,Fw,J,(ht J),⟨_,_,_,_,_,J,Fv,J,(ht J),⟨_,_,_,_,_,J,Fu,J,(ht J),⟨_,_,_,_,_,J,yh,J,(ht J),J⟩⟩⟩⟩))<|ai cg J aj J (ht J) (ht J)<|bh 8 J<|au<|ak<|aD<|aD<|aD ?_;cases so h;exact js J cg J J J (Km [(((sg 15).h 0).1,((sg 15).h 0).2),((ix.h 1).1,(ix.h 1).2)]) J J
 ·skip
  refine aw<|aE J<|zo J (iz J)<|au<|cE h J (fun h=>?_) (fun h=>?_)
  ·refine am<|zo J (dB)<|aJ<|bF<|aD<|aD<|bF ?_;exact bJ (K (2:Int) h) (bg J)
  ·refine bk<|bF<|aD<|aD<|bF ?_;exact bJ (K (1:Int) h) (bg J)

theorem F4(b:Nat)(ix:OI)(p:aO)(s:ba){R:ba×aO}(h:dS p s=some R):d2 bl 35 [tV (aM b 0),tD ap s] (ig b p ix) (fun _:OI=>tD ap R.1) (fun j=>ig b R.2 j):=by
 refine d2.of Tryz.func35 J J J fun w0 S0=>?_;refine(show CG _ _ _ [bx (rH bb [(0,aV (ix.h 0).1 (ix.h 0).2 p.Plan.Frags.length),(3,aV (ix.h 1).1 (ix.h 1).2 p.kinds.length)]) 91 b p,tip aH 74 (ix.h 0).1 (ix.h 0).2 p.Plan.Frags,tip gG 42 (ix.h 1).1 (ix.h 1).2 p.kinds] _ from ?_);refine aw<|zo J (jt J)<|bj (r:=ap) (x:=ky) cg (fun _=>gi _) J fun b1=>au<|ac<|aw<|zo J (bD ul mV J J)<|zo J (bm bA J J)<|zo J (iz J)<|au<|cE h J (fun h=>?_) (fun h=>?_)
 ·refine aw<|zo J (bm cg J J)<|ai cg J aj J (ht J) (ht J)<|au<|ak<|M<|bH 4 J<|aD<|aD<|aD ?_;cases so h;exact js J cg J J J ix J J
 ·refine dz<|aw<|aE J<|zo J (bm cg J J)<|bz h fun r q_r h=>nw (EffOK.fr3 (EffOK.fr3 (EffOK.fr3 (iI (xs:=[.tmp 9,.tmp 10,.const (.int .i64 (3)),.const (.slice none 0 0)]) (ts:=[tV (aM b 0),tD ap s,cb 3,dI ([])]) (ig b p ix) _ J Jd (Cm b ix p _ _ _ q_r) ⟨(ht J),(ht J),hI,jr,aT⟩ (fun _=>J))))) J fun i=>?_;refine(show RG _ _ _ _ [bx (rH bb [(0,aV (i.h 0).1 (i.h 0).2 r.2.Plan.Frags.length),(3,aV (i.h 1).1 (i.h 1).2 r.2.kinds.length)]) 91 b r.2,tip aH 74 (i.h 0).1 (i.h 0).2 r.2.Plan.Frags,tip gG 42 (i.h 1).1 (i.h 1).2 r.2.kinds,bx ap 95 b1 ky] ((11,tD ap r.1)::_)from ?_);refine dC<|ai cg J aj J (ht J) (ht J)<|au<|ak<|bH 4 J<|aD<|aD<|aD ?_;cases so h;exact js J cg J J J i J J

theorem Wa(b:Nat)(ix:OI)(p:aO)(n:af)(kinds:(List Int))(x:(List ba)){R:ba}(h:j4 p n kinds x=some R):d2 bl 66 [tV (aM b 0),tD ah n,dI kinds,fc (ap) x] (ig b p ix) (fun _:OI=>tD ap R) (fun _=>(ig b p ix)):=by
 refine d2.of Tryz.func66 J J J fun w0 S0=>?_;refine(show CG _ _ _ [bx (rH bb [(0,aV (ix.h 0).1 (ix.h 0).2 p.Plan.Frags.length),(3,aV (ix.h 1).1 (ix.h 1).2 p.kinds.length)]) 91 b p,tip aH 74 (ix.h 0).1 (ix.h 0).2 p.Plan.Frags,tip gG 42 (ix.h 1).1 (ix.h 1).2 p.kinds] _ from ?_);refine aw<|zo J (jt J)<|bj (r:=ap) (x:=ky) cg (fun _=>gi _) J fun b1=>au<|ac<|bz h fun e q_e h=>?_
 refine iL 14 (ts:=[tD ah n,fc (ah) ([n]),dI kinds,tV (aM b 0),tV (aM b 0),tV (aM b 2),tV (aM b 2),fc (di) p.catalog.Tables,bt cx n.Table,cb n.Table,bt di e,bt gG e.Keys,dI e.Keys,tD ap (⟨[n],kinds,(1:Int),e.Keys⟩:ba)]) mixed J J J
  ⟨ef 5 J J J (bm cz J J),
  ⟨cT 9 0 J J J (aN (r:=ah) (ys:=[n]) (xs:=[.tmp 9]) om cz J J J J J ⟨(ht J),aT⟩),
  ⟨ef 2 J J J (cG J),
  ⟨ef 0 J J J (cG J),
  ⟨cT 12 3 J J J (eJ (ht J)),
  ⟨cT 13 4 J J J (dy 2 Uc J J J),
  ⟨cT 14 5 J J J (dy 2 oM J J J),
  ⟨cT 15 6 J J J (aA (r:=rH bb [(0,aV (ix.h 0).1 (ix.h 0).2 p.Plan.Frags.length),(3,aV (ix.h 1).1 (ix.h 1).2 p.kinds.length)]) (x:=p) xi J J (No (ui G7 eM)) (.tail _ (.head _)) (ht J)),
  ⟨ef 5 J J J (bD oL hZ J J),
  ⟨cT 17 8 J J J (bm bA J J),
  ⟨dG 16 7 18 9 J J J J (iQ ux se J J J q_e),
  ⟨cT 19 10 J J J (bD vo mq J J),
  ⟨cT 20 11 J J J (bm cD J J),
  ⟨wK 10 1 11 2 21 12 J J J J J (cm (y:=(⟨[n],kinds,(1:Int),e.Keys⟩:ba)) cg T7 gi (⟨_,_,_,_,_,J,Fw,J,(ht J),⟨_,_,_,_,_,J,Fv,J,(ht J),⟨_,_,_,_,_,J,Fu,J,hI,⟨_,_,_,_,_,J,yh,J,(ht J),J⟩⟩⟩⟩)),
  aT⟩⟩⟩⟩⟩⟩⟩⟩⟩⟩⟩⟩⟩⟩ ?_
 refine ai cg J aj J (ht J) (ht J)<|bh 8 J<|au<|ak<|aD<|aD<|aD ?_;cases so h;exact js J cg J J J nz J J

theorem Px(s:(List af)){R:(List af)}(h:eE s=some R):gK bl 178 [fc (ah) s] false ah 72 R:=by
 refine gK.of Tryz.func178 J J J fun w0 S0=>aw<|cd false ah 72<|zo J (aU s6)<|au<|ac<|aw<|aE J<|vJ om (ht J) J fun isnil hisnil=>au<|qT (ht J) (fun hc=>?_) (fun hc=>?_)
 ·have hx:=hisnil hc
  have h:some CB=some R:=by simpa [eE,kq,hx] using h
  refine aw<|cd false ah 72<|zo J (aU s6)<|au<|ak<|M ?_;cases so h;exact jd J J
 ·refine dz<|aw<|jT (r:=ah) (ys:=CB) (xs:=[]) om cz J J J J J trivial J fun l c=>aE J<|bz h fun x q_x h=>cK cz J J J J om J J (ht J) (ht J) q_x fun l1 c1=>bu J<|au<|ak ?_;cases so h;exact jd J J
theorem od(n:af)(kinds:(List Int))(l:(List ba)){R:ba}(h:eU n kinds l=some R):bo bl 106 [tD ah n,dI kinds,fc (ap) l] (tD ap R):=by
 refine bo.of Tryz.func106 J J J fun w0 S0=>aw<|kO (ht J) J fun b=>bj (r:=ap) (x:=ky) cg (fun _=>gi _) J fun b1=>au<|aw<|zo J (dy 1 fC J J J)<|bL<|ai bA J mf J (ht J) hI<|zo J (dy 2 iy J J J)<|ai bA J k7 J (ht J) hI<|au<|aw<|aE J<|aE J<|bz h fun e q_e h=>zo J (aQ lI cg J (ht J) hI q_e)<|zo J (bD ul mV J J)<|zo J (bm bA J J) ?_;refine cd true ah 72<|zo J (cm (y:=nS (⟨[],kinds,e.at_,[]⟩:ba) (aV none 0 (CB.length))) cg T7 Fg (⟨_,_,_,_,_,J,H2,J,(ht J),⟨_,_,_,_,_,J,H1,J,(ht J),J⟩⟩))<|cd true ah 72<|bj (r:=lD) (x:=nS ky (aV none 0 (CB.length))) cg Fg J fun b2=>c0<|bL<|kw cg J (nL J) J (ht J) (ht J)<|c0<|Dd<|au<|ac<|aw<|aE J<|zo J (fW lI J)<|zo J (bQ hI)<|au<|ax<|br (k:=21) J fun hN=>bB<|eV<|eV ?_;refine ph<|ph ?_;refine aP (vL (Z:=fun ls i n1 out l1 c=>(l.drop i=ls)∧fK ls i n1 out=some R) (Of:=fun _ i n1 out l1 c=>[bx ah 72 b n1,bx ap 95 b1 ky,bx lD 95 b2 (nS out (aV l1 c out.nodes.length)),tip ah 72 l1 c out.nodes]) (Gf:=fun _ i n1 out l1 c=>[(3,tV (aM b 0)),(6,tV (aM b1 0)),(7,tV (aM b2 0)),(21,fc (ap) l),(22,jV l),(23,cb (i:Int))]) (fun i n1 out l1 c h=>?_) (fun e1 tl ih i n1 out l1 c h=>?_) l 0 (af.mk n.Op mK mK n.Table n.Kinds n.Left n.Cond n.Keys n.Aggs n.Items n.Order n.Limit) ({(⟨[],kinds,e.at_,[]⟩:ba)with nodes:=CB}:ba) none 0 ⟨J,h⟩) (bg J)
 ·obtain⟨hx,h⟩:=h
  refine aB<|aw<|zo J (ft J J)<|au<|ac<|bP (ht J) (dU hx)<|bp ?_;refine ae (ae (aK ?_));refine aq<|aw<|zo rfl (dy 0 vn rfl rfl rfl)<|zo rfl (o7 iB sH (.tail _ (.tail _ (.head _))) (.tail _ (.tail _ (.tail _ (.head _)))) rfl (ht rfl))<|zo rfl (aA cz rfl rfl aR (.head _) (ht rfl))<|zo rfl (aN (r:=ah) (ys:=[n1]) (xs:=[.tmp 77]) om cz J J J J J ⟨(ht J),aT⟩)<|dC<|bz h fun l2 q_l2 h=>my cz J J J J om J J (ht J) (ht J) q_l2 fun l3 c1=>zo J (dy 0 vn J J J)<|dC<|kw iB J (s0 _ _ _) J (ht J) (N1 (Bl (ht J)))<|au<|aw<|bL<|zo J (pZ (q:=ap) (y:=({out with nodes:=l2}:ba)) cg J J J J (.tail _ (.head _)) (fun _ _ _ ho h=>Ep (uP ho (.head _)) h) (ht J))<|dC<|ai cg J aj J (ht J) (ht J)<|bh 6 J<|au ?_;refine ak<|aL<|aL<|aL ?_;cases so h;exact dF J cg J J J
 ·obtain⟨hx,h⟩:=h
  refine aB<|aw<|zo J (ft J J)<|au<|ac<|bO (ht J) (dN hx)<|dz<|ac<|ax<|aw<|aE J<|zo J (iQ lI cg J J J (dO hx))<|zo J (bm cg J J)<|bj (r:=ap) (x:=ky) cg (fun _=>gi _) J fun b3=>bu J<|ai cg J aj J (ht J) (ht J)<|bh 9 J<|au<|ac ?_;refine am<|zo J (dy 0 vn J J J)<|zo J (o7 iB sH (.tail _ (.tail _ (.head _))) (.tail _ (.tail _ (.tail _ (.head _)))) J (ht J))<|zo J (bU om (kT (ht J)))<|bu J<|au<|ac<|aw<|zo J (bD vn BF J J)<|zo J (bm iB J J)<|bz h fun r q_r h=>lY Xh (Px _ q_r) ⟨(ht J),aT⟩ J fun l4 c2=>zo J (gQ om (.head _) (ht J))<|zo J (bQ hI)<|au<|ax<|ny (.head _) fun hN1=>bB ?_;refine aP (lZ (Z:=fun ls1 i1 cv l5 c3=>(r.drop i1=ls1)∧dT (fK tl) i n1 out ls1 cv=some R) (Of:=fun _ i1 cv l5 c3=>[ga ah 72 l4 c2 r,bx ah 72 b n1,bx ap 95 b1 ky,bx lD 95 b2 (nS cv (aV l5 c3 cv.nodes.length)),tip ah 72 l5 c3 cv.nodes]) (Gf:=fun _ i1 cv l5 c3=>[(3,tV (aM b 0)),(6,tV (aM b1 0)),(7,tV (aM b2 0)),(8,cb (i:Int)),(10,jV out.nodes),(21,fc (ap) l),(22,jV l),(23,cb (i:Int)),(33,oP l4 c2 r),(34,jV r),(35,cb (i1:Int))]) (fun i1 cv l5 c3 h=>?_) (fun e2 tl1 ih1 i1 cv l5 c3 h=>?_) r 0 out l1 c ⟨J,h⟩) (bg J)
  ·obtain⟨hx1,h⟩:=h
   refine aB<|aw<|zo J (ft J J)<|au<|ac<|bP (ht J) (dU hx1)<|bp ?_;refine ae (ae (aK ?_));refine aq<|aw<|aE rfl<|zo rfl (iz rfl)<|au<|cE h rfl (fun h=>?_) (fun h=>?_)
   ·refine am<|zo J (dy 0 vn J J J)<|zo J (o7 iB sH (.tail _ (.tail _ (.tail _ (.head _)))) (.tail _ (.tail _ (.tail _ (.tail _ (.head _))))) J (ht J))<|zo J (bU om (kT (ht J)))<|zo J (dL (ht J) hI)<|zo J (dy 1 fC J J J)<|bL<|ai bA J mf J (ht J) (ht J)<|aJ<|an<|aq<|am<|zo rfl (nh (dm hx hN) rfl)<|aE rfl<|aJ<|bE<|aL ?_;exact be (aP (ih (i+1) (af.mk n1.Op (IntKind.i64.wrap ((cv.nodes.length:Int)-(1:Int))) n1.B n1.Table n1.Kinds n1.Left n1.Cond n1.Keys n1.Aggs n1.Items n1.Order n1.Limit) cv l5 c3 ⟨dl hx,h⟩) (bg J))
   ·refine am<|zo J (dy 0 vn J J J)<|zo J (o7 iB sH (.tail _ (.tail _ (.tail _ (.head _)))) (.tail _ (.tail _ (.tail _ (.tail _ (.head _))))) J (ht J))<|zo J (bU om (kT (ht J)))<|zo J (dL (ht J) hI)<|zo J (dy 2 iy J J J)<|bL<|ai bA J k7 J (ht J) (ht J)<|aJ<|an<|aq<|am<|zo rfl (nh (dm hx hN) rfl)<|aE rfl<|aJ<|bE<|aL ?_;exact be (aP (ih (i+1) (af.mk n1.Op n1.A (IntKind.i64.wrap ((cv.nodes.length:Int)-(1:Int))) n1.Table n1.Kinds n1.Left n1.Cond n1.Keys n1.Aggs n1.Items n1.Order n1.Limit) cv l5 c3 ⟨dl hx,h⟩) (bg J))
  ·obtain⟨hx1,h⟩:=h
   refine aB<|aw<|zo J (ft J J)<|au<|ac<|bO (ht J) (dN hx1)<|dz<|ac<|ax<|aw<|zo J (cV om cz (.head _) (ht J) (ht J) (dO hx1))<|zo J (gn (r:=ah) (i:=(i1:Int)) (foff:=0) cz J J aR J (.head _) (dO hx1) (ht J))<|bj (r:=ah) (x:=zk) cz (fun _=>iT _) J fun b4=>ai cz J aj J (ht J) (ht J)<|au ?_;refine dD (Z:=fun x=>qH out (dT (fK tl) i n1 out tl1) cv x=some R) (Of:=fun x=>[ga ah 72 l4 c2 r,bx ah 72 b n1,bx ap 95 b1 ky,bx ah 72 b4 x,bx lD 95 b2 (nS cv (aV l5 c3 cv.nodes.length)),tip ah 72 l5 c3 cv.nodes]) (Gf:=fun x=>[(3,tV (aM b 0)),(6,tV (aM b1 0)),(7,tV (aM b2 0)),(8,cb (i:Int)),(10,jV out.nodes),(12,tV (aM b4 0)),(21,fc (ap) l),(22,jV l),(23,cb (i:Int)),(33,oP l4 c2 r),(34,jV r),(35,cb (i1:Int))]) (fun x h=>?_) (fun K=>?_)
   ·skip
    refine dD (Z:=fun x1=>qG (dT (fK tl) i n1 out tl1) cv x1=some R) (Of:=fun x1=>[ga ah 72 l4 c2 r,bx ah 72 b n1,bx ap 95 b1 ky,bx ah 72 b4 x1,bx lD 95 b2 (nS cv (aV l5 c3 cv.nodes.length)),tip ah 72 l5 c3 cv.nodes]) (Gf:=fun x1=>[(3,tV (aM b 0)),(6,tV (aM b1 0)),(7,tV (aM b2 0)),(8,cb (i:Int)),(10,jV out.nodes),(12,tV (aM b4 0)),(21,fc (ap) l),(22,jV l),(23,cb (i:Int)),(33,oP l4 c2 r),(34,jV r),(35,cb (i1:Int))]) (fun x1 h=>?_) (fun K1=>?_)
    ·skip
     refine am<|zo J (dy 0 vn J J J)<|zo J (o7 iB sH (.tail _ (.tail _ (.tail _ (.tail _ (.head _))))) (.tail _ (.tail _ (.tail _ (.tail _ (.tail _ (.head _)))))) J (ht J))<|zo J (aA cz J J aR (.tail _ (.tail _ (.tail _ (.head _)))) (ht J))<|zo J (aN (r:=ah) (ys:=[x1]) (xs:=[.tmp 57]) om cz J J J J J ⟨(ht J),aT⟩)<|ry<|bz h fun l6 q_l6 h=>my cz J J J J om J J (ht J) (ht J) q_l6 fun l7 c4=>zo J (dy 0 vn J J J)<|ry<|kw iB J (s0 _ _ _) J (ht J) (N1 (Bl (ht J)))<|aJ<|an<|aq<|am<|zo rfl (nh (dm hx1 hN1) rfl)<|aE rfl<|aJ<|cq<|aL<|bE<|bE<|dq<|dq ?_;refine dq ?_;exact be (aP (ih1 (i1+1) ({cv with nodes:=l6}:ba) l7 c4 ⟨dl hx1,h⟩) (bg J))
    ·skip
     refine aw<|zo J (dy 2 iy J J J)<|zo J (aA bA J J d9 (.tail _ (.tail _ (.tail _ (.head _)))) (ht J))<|zo J (cU (ht J) hI)<|au<|cE h J (fun h=>?_) (fun h=>?_)
     ·refine am<|zo J (dy 2 iy J J J)<|zo J (aA bA J J d9 (.tail _ (.tail _ (.tail _ (.head _)))) (ht J))<|aE J<|zo J (ei (ht J) (ht J))<|zo J (dy 2 iy J J J)<|dC<|ai bA J k7 J (ht J) (ht J)<|aJ<|cq<|cq<|aD<|cq<|cq<|cq ?_;exact bJ (K1 (af.mk x.Op x.A (IntKind.i64.wrap (x.B+(out.nodes.length:Int))) x.Table x.Kinds x.Left x.Cond x.Keys x.Aggs x.Items x.Order x.Limit) h) (bg J)
     ·refine bk ?_;exact bJ (K1 x h) (bg J)
   ·skip
    refine aw<|zo J (dy 1 fC J J J)<|zo J (aA bA J J cY (.head _) (ht J))<|zo J (cU (ht J) hI)<|au<|cE h J (fun h=>?_) (fun h=>?_)
    ·refine am<|zo J (dy 1 fC J J J)<|zo J (aA bA J J cY (.head _) (ht J))<|aE J<|zo J (ei (ht J) (ht J))<|zo J (dy 1 fC J J J)<|ai bA J mf J (ht J) (ht J)<|aJ<|cq<|cq<|aD<|cq<|cq<|cq ?_;exact bJ (K (af.mk e2.Op (IntKind.i64.wrap (e2.A+(out.nodes.length:Int))) e2.B e2.Table e2.Kinds e2.Left e2.Cond e2.Keys e2.Aggs e2.Items e2.Order e2.Limit) h) (bg J)
    ·refine bk<|cq<|cq<|aD<|cq<|cq<|cq ?_;exact bJ (K e2 h) (bg J)

theorem u0(s:ba)(columns:(List Int)){R:ba}(h:fU s columns=some R):bo bl 107 [tD ap s,dI columns] (tD ap R):=by
 refine bo.of Tryz.func107 J J J fun w0 S0=>aw<|kO (ht J) J fun b=>bj (r:=ap) (x:=ky) cg (fun _=>gi _) J fun b1=>au<|aw<|aE J<|zo J (dy 3 p6 J J J)<|bL<|ai cD J yh J (ht J) (ht J)<|au<|aw<|zo J (aA (x:=(ba.mk s.nodes s.kinds s.at_ columns)) cg J J aR (.head _) (ht J))<|bL<|ai cg J aj J (ht J) (ht J)<|bh 4 J<|au<|ak ?_;refine aL ?_;cases so h;exact dF J cg J J J

theorem V9(b:Nat)(ix:OI)(p:aO)(n:af)(kinds:(List Int))(l:(List ba)){R:ba}(h:jf p n kinds l=some R):d2 bl 67 [tV (aM b 0),tD ah n,dI kinds,fc (ap) l] (ig b p ix) (fun _:OI=>tD ap R) (fun _=>(ig b p ix)):=by
 refine d2.of Tryz.func67 J J J fun w0 S0=>?_;refine(show CG _ _ _ [bx (rH bb [(0,aV (ix.h 0).1 (ix.h 0).2 p.Plan.Frags.length),(3,aV (ix.h 1).1 (ix.h 1).2 p.kinds.length)]) 91 b p,tip aH 74 (ix.h 0).1 (ix.h 0).2 p.Plan.Frags,tip gG 42 (ix.h 1).1 (ix.h 1).2 p.kinds] _ from ?_);refine aw<|zo J (jt J)<|bj (r:=ap) (x:=ky) cg (fun _=>gi _) J fun b1=>au<|ac<|bz h fun e q_e h=>bz h fun r q_r h=>bz h fun r1 q_r1 h=>?_
 refine iL 12 (ts:=[tD ah n,dI kinds,fc (ap) l,bt ap e,tD ap e,fc (ap) ([e]),tD ap r,fc (ap) l,bt ap e,bt gG e.hashed,dI e.hashed,tD ap r1]) mixed J J J
  ⟨ef 5 J J J (bm cz J J),
  ⟨ef 2 J J J (cG J),
  ⟨ef 3 J J J (cG J),
  ⟨cT 11 2 J J J (aQ lI cg J (ht J) hI q_e),
  ⟨cT 12 3 J J J (bm cg J J),
  ⟨cT 13 4 J J J (aN (r:=ap) (ys:=[e]) (xs:=[.tmp 13]) lI cg J J J J J ⟨(ht J),aT⟩),
  ⟨wK 9 0 10 1 14 5 J J J J J (aC u5 (od _ _ _ q_r) ⟨(ht J),(ht J),(ht J),aT⟩),
  ⟨ef 3 J J J (cG J),
  ⟨cT 16 7 J J J (aQ lI cg J (ht J) hI q_e),
  ⟨cT 17 8 J J J (bD p6 kW J J),
  ⟨cT 18 9 J J J (bm cD J J),
  ⟨dG 15 6 19 10 J J J J (aC Ct (u0 _ _ q_r1) ⟨(ht J),(ht J),aT⟩),
  aT⟩⟩⟩⟩⟩⟩⟩⟩⟩⟩⟩⟩ ?_
 refine ai cg J aj J (ht J) (ht J)<|bh 8 J<|au<|ak<|aD<|aD<|aD ?_;cases so h;exact js J cg J J J nz J J

theorem RT(s:(List Int))(v:Int){R:Int}(h:lK s v=some R):bo bl 179 [dI s,cb v] (cb R):=by
 refine bo.of Tryz.func179 J J J fun w0 S0=>aw<|zo J (dB)<|au<|ac<|aw<|aE J<|zo J (fW dc J)<|zo J (bQ hI)<|au<|ax<|br (k:=6) J fun hN=>bB ?_;refine aP (em (Z:=fun ls i=>(s.drop i=ls)∧ff v ls i=some R) (Of:=fun _ i=>[]) (Gf:=fun _ i=>[(0,dI s),(1,cb v),(7,jV s),(8,cb (i:Int))]) (fun i h=>?_) (fun e tl ih i h=>?_) s 0 ⟨J,h⟩) (bg J)
 ·obtain⟨hx,h⟩:=h
  refine aB<|aw<|zo J (ft J J)<|au<|ac<|bP (ht J) (dU hx)<|bp ?_;refine ae (ae (aK ?_));refine aq<|aw<|zo rfl (dB)<|au<|ak ?_;cases so h;exact aF J J
 ·obtain⟨hx,h⟩:=h
  refine aB<|aw<|zo J (ft J J)<|au<|ac<|bO (ht J) (dN hx)<|dz<|ac<|ax<|aw<|aE J<|bu J<|au<|aw<|aE J<|aE J<|aE J<|zo J (iQ dc bA J J J (dO hx)) ?_;refine zo J (bm bA J J)<|zo J (cw (ht J) (ht J))<|au<|cE h J (fun h=>?_) (fun h=>?_)
  ·refine aw<|aE J<|bu J<|au<|ak ?_;refine ay (M (M (ay (M ?_))));cases so h;exact aF J J
  ·refine bk<|an<|aq<|am<|zo rfl (nh (dm hx hN) rfl)<|aE rfl<|aJ ?_;exact be (aP (ih (i+1) ⟨dl hx,h⟩) (bg J))

end Go.Proofs.YtnmjbolollcokaaGreatDoor

